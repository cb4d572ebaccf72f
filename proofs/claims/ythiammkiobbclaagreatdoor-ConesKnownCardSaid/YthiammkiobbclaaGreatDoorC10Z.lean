/-
 Cones: the choices that fold.
-/
import Derived.Test.YthiammkiobbclaaGreatDoorC9Z
set_option maxRecDepth 1000000
set_option linter.unusedVariables false
namespace Go.Proofs.YthiammkiobbclaaGreatDoor.X
open Go Go.Ab
def kB (m i:Int):Int:=1+(m.fdiv (2 ^ i.toNat)).fmod 2
def kdM (m:Int)(n:Nat):List Int:=(List.range n).map fun(i:Nat)=>kB m i
def A9V (k:List Int)(n:Nat)(b:Nat):Bool:=gR k n==1+(b:Int)||gR k n==3
def chL (k:List Int):Nat->Int->Nat->List (List Int)
 |0,m,n=>[kdM m n]
 |f+1,m,n=>(cond (A9V k n 0) (chL k f m (n+1)) [])++(cond (A9V k n 1) (chL k f (m+2 ^ n) (n+1)) [])
def A2Z (a k:List Int)(m:Int)(n:Nat)(H:List (List Int)):List (List Int):=H++(chL k (k.length-n) m n).filter fun h=>A2A a h
def A9W (a k:List Int)(m:Int)(n:Nat)(H:List (List Int))(b:Nat):List (List Int):=
 H++((cond (ltn 0 b&&A9V k n 0) (chL k (k.length-(n+1)) m (n+1)) [])++(cond (ltn 1 b&&A9V k n 1) (chL k (k.length-(n+1)) (m+2 ^ n) (n+1)) [])).filter fun h=>A2A a h
def A1a (a k:List Int):List (List Int):=if chk a k=0 then A2Z a k 0 0 []else[]
def A1l (a:List Int)(H:List (List Int)):List AV:=H.flatMap fun h=>[A10 .i64 a,A10 .u8 h]
def unK:List AV->List (List Int)
 |_:: .imm (.ints _ h) _ _::r=>h::unK r
 |_=>[]
def bkK (a:List Int)(H:List (List Int)):Blk:=⟨.vals (A1l a H),2,H.length,none,some true,true,false⟩
def D1i (H:List (List Int)):HO:=.blk ⟨.cells [.full 9700 H.length],1,1,none,some false,true,true⟩
def D4Z:HO:=.blk ⟨.cells [.fn 39 [] [.ptr 64 0,.ptr 384 0,.ptr 320 0]],1,1,none,some false,true,true⟩
def hpK (a k:List Int)(H:List (List Int)):List (Nat×HO):=
 [(9700,.blk (bkK a H)),(320,D1i H),(384,D4Z),(64,.blk ⟨.cells [.imm (.ints .i64 a) a.length none,.imm (.ints .u8 k) k.length none],2,1,none,some false,true,true⟩)]
def wsK (a:List Int)(H:List (List Int)):List (Nat×HO):=[(320,D1i H),(9700,.blk (bkK a H))]
def okM (m:Int)(n:Nat):Prop:=0<=m/\m<2 ^ n/\n<=8
def okH (k:List Int)(n:Nat)(H:List (List Int)):Prop:=H.length+2 ^ (k.length-n)<=1000
def chK (a k:List Int)(q:Nat)(h:List (Nat×HO))(cv:AV)(args:List AV):Option Cx:=
 match cv,args,aget h 9700 with
 |.fn f [] [],[.int .i64 m,.int .i64 n,.ptr c 0,.ptr g 0,.ptr u 0],some (.blk ⟨.vals vs,_,_,_,_,_,_⟩)=>cond (Nat.beq f 39&&(Nat.beq c 64&&(Nat.beq g 384&&Nat.beq u 320)))
   (some ⟨.tup [],wsK a (A2Z a k m n.toNat (unK vs)),some (h=hpK a k (unK vs)/\0<=n/\n.toNat=q/\q<=k.length/\okM m q/\okH k q (unK vs))⟩) none
 |_,_,_=>none
def tK:List (Nat×CtE):=[(41,A9L .i64),(40,A9J .i64),(20,e14)]
def TK (a k:List Int)(q:Nat):Tab:=A2t tK (chK a k q)
structure LK where (i:Int)(H:List (List Int))
def D7t (a k:List Int)(m:Int)(n:Nat)(H:List (List Int)):LpS LK where
 ov b:=[(18,.int .i64 b.i)]
 bk b:=[(320,D1i b.H),(9700,.blk (bkK a b.H))]
 rd S:=match aget S.t 18,aget S.h 9700 with
  |some (.int _ i),some (.blk ⟨.vals vs,_,_,_,_,_,_⟩)=>some ⟨i,unK vs⟩
  |_,_=>none
 pre b:=∃i:Nat,b.i=i/\i<=2/\b.H=A9W a k m n H i
 mu b:=2-b.i.toNat
structure LKk where (i:Int)(h:List Int)
def D7u (m:Int)(n:Nat):LpS LKk where
 ov b:=[(59,.int .i64 b.i)]
 bk b:=[(581,.blk ⟨.ints .u8 b.h,1,n,some n,some false,true,false⟩)]
 rd S:=match aget S.t 59,aget S.h 581 with
  |some (.int _ i),some (.blk ⟨.ints _ h,_,_,_,_,_,_⟩)=>some ⟨i,h⟩
  |_,_=>none
 pre b:=∃i:Nat,b.i=i/\i<=n/\b.h=(kdM m n).take i++List.replicate (n-i) 0
 mu b:=n-b.i.toNat
def e42:CtE
 |[.imm (.vals vs) n _]=>some ⟨.imm (.vals vs) n (some n),[],some (vs.length=n*2)⟩
 |_=>none
def C26 (a k:List Int)(h:List (Nat×HO))(cv:AV)(args:List AV):Option Cx:=
 match cv,args,aget h 9700 with
 |.fn f [] [],[.int .i64 m,.int .i64 n,.ptr c 0,.ptr g 0,.ptr u 0],some (.blk ⟨.vals vs,_,_,_,_,_,_⟩)=>cond (Nat.beq f 39&&(Nat.beq c 64&&(Nat.beq g 384&&Nat.beq u 320)))
   (some ⟨.tup [],wsK a (A2Z a k 0 0 []),some (h=hpK a k []/\m=0/\n=0/\chk a k=0)⟩) none
 |_,_,_=>none
def T19 (a k:List Int):Tab:=A2t [(30,e17),(42,e42)] (C26 a k)
def j19 (a:List Int):LpS Unit where
 ov _:=[]
 bk _:=[(384,D4Z),(9700,.blk (bkK a []))]
 rd S:=some ()
 pre _:=True
 mu _:=0
def D40 (a k:List Int):AV:=.imm (.vals (A1l a (A1a a k))) (A1a a k).length (some (A1a a k).length)
def C8B:CtE
 |[.agg [.imm (.ints .i64 a) n _,.imm (.ints .u8 k) m _]]=>some ⟨.tup [D40 a k,.int .i64 (chk a k)],[],some (n=a.length/\m=k.length/\a.length<1000000/\k.length<1000000)⟩
 |_=>none
def T31:Tab:=A2t [(19,C8B)] A3E
def C4b (a k:List Int):Bool:=ltb 0 ((A1a a k).length:Nat)
def C8C:CtE
 |[.agg [.imm (.ints .i64 a) n _,.imm (.ints .u8 k) m _]]=>some ⟨.tup [.bool (C4b a k),.int .i64 (chk a k)],[],some (n=a.length/\m=k.length/\a.length<1000000/\k.length<1000000)⟩
 |_=>none
open List IntKind
theorem C27 (a k:List Int)(m n:Int)(H:List (List Int)):fnD (TK a k (n.toNat+1)) G 10000 (C7R) (.r [] 1 (.cnd (.r [] 0 (.lp (D7t a k m (Int.toNat n) H) [] [] (fun b=>(.r [] 0 (.cnd (.r [] 0 (.r [] 0 (.rs 8 [] 1 31 (.r [] 3 (.lit (.r [yO 452,yO 455,(456,.auto,Dr.heap)] 1 (.r [] 0 .nil)))) (.r [] 97 (.cnd (.r [yO 452,yO 455,(456,.auto,Dr.heap)] 1 (.r [] 0 .nil)) (.r [] 0 .nil)))))) .nil))))) (.r [] 65 (.r [] 1 (.lp (D7u m (Int.toNat n)) [] [] (fun b=>(.r [] 0 (.cnd (.r [] 0 (.r [] 1 (.r [] 0 .nil))) (.frz 9 0 (.r [] 13 (.r [] 0 (.cnd (.r [] 51 .nil) .nil)))))))))))) ([.int .i64 m,.int .i64 n,.ptr 64 0,.ptr 384 0,.ptr 320 0]) (hpK a k H) ([]) (wsK a (A2Z a k m n.toNat H))=(
 (fun(zz3:List Int)=>(fun(zz0:Nat)=>(ltb n (↑(length k):Int)=true->length H=length (unK (A1l a H))/\A1l a H=A1l a (unK (A1l a H))/\1=1/\length H=length (unK
 (A1l a H))/\1=1/\0=0/\0=0/\0=0/\1=1/\qs i64 a (qs u8 k (m=m/\n=n/\0=0/\0=0/\iI 0=0/\(∃(i:Nat),0=(↑i:Int)/\i<=2/\unK (A1l a H)=A9W a k m
 (Int.toNat n) H i)/\∀(b:LK),(fun(zz2:Nat)=>(fun(zz1:Prop)=>(∃(i:Nat),b.i=(↑i:Int)/\i<=2/\b.H=A9W a k m (Int.toNat n) H i)->(ltb b.i 2=true->inR i64 (1+b.i)
 =true/\inR u8 (1+b.i)=true/\rd u8 k n (((getD zz3 0 0==1+b.i)=true->inR i64 (b.i*2 ^ min (Int.toNat n) 64)=true/\leb 0 n=true/\inR i64 (n+1)=true/\([(9700,HO.blk
 (Blk.mk (Cont.vals (A1l a b.H)) 2 (length b.H) none (some true) true false)),(320,HO.blk (Blk.mk (Cont.cells [AV.full 9700 (length b.H)]) 1 1 none (some false) true true)),(384,HO.blk
 (Blk.mk (Cont.cells [AV.fn 39 [] [AV.ptr 64 0,AV.ptr 384 0,AV.ptr 320 0]]) 1 1 none (some false) true true)),(64,HO.blk (Blk.mk (Cont.cells [AV.imm (Cont.ints i64 a) (length a) none,
 AV.imm (Cont.ints u8 k) (length k) none]) 2 1 none (some false) true true))]=[(9700,HO.blk (Blk.mk (Cont.vals (A1l a (unK (A1l a b.H)))) 2 zz2 none (some true) true false)),(320,
 HO.blk (Blk.mk (Cont.cells [AV.full 9700 zz2]) 1 1 none (some false) true true)),(384,HO.blk (Blk.mk (Cont.cells [AV.fn 39 [] [AV.ptr 64 0,AV.ptr 384 0,AV.ptr 320 0]]) 1 1 none (some
 false) true true)),(64,HO.blk (Blk.mk (Cont.cells [AV.imm (Cont.ints i64 a) (length a) none,AV.imm (Cont.ints u8 k) (length k) none]) 2 1 none (some false) true true))]/\0<=n+1/\
 Int.toNat (n+1)=Int.toNat n+1/\Int.toNat n+1<=length k/\okM (A4A BinOp.or i64 m (b.i*2 ^ min (Int.toNat n) 64)) (Int.toNat n+1)/\okH k (Int.toNat n+1) (unK (A1l a b.H)))
 /\inR i64 (b.i+1)=true/\length (A2Z a k (A4A BinOp.or i64 m (b.i*2 ^ min (Int.toNat n) 64)) zz0 (unK (A1l a b.H)))=length (unK (A1l a (A2Z a k (A4A BinOp.or i64 m (b.i*2 ^
 min (Int.toNat n) 64)) zz0 (unK (A1l a b.H)))))/\A1l a (A2Z a k (A4A BinOp.or i64 m (b.i*2 ^ min (Int.toNat n) 64)) zz0 (unK (A1l a b.H)))=A1l a (unK (A1l a (A2Z a k (A4A
 BinOp.or i64 m (b.i*2 ^ min (Int.toNat n) 64)) zz0 (unK (A1l a b.H)))))/\1=1/\length (A2Z a k (A4A BinOp.or i64 m (b.i*2 ^ min (Int.toNat n) 64)) zz0 (unK (A1l a b.H)))=length
 (unK (A1l a (A2Z a k (A4A BinOp.or i64 m (b.i*2 ^ min (Int.toNat n) 64)) zz0 (unK (A1l a b.H)))))/\1=1/\0=0/\0=0/\0=0/\1=1/\qs i64 a (qs u8 k (m=m/\n=n/\0=0/\0
 =0/\b.i+1=b.i+1/\zz1/\2-Int.toNat (b.i+1)<2-Int.toNat b.i/\True)))/\((getD zz3 0 0==1+b.i)=false->rd u8 k n (((getD zz3 0 0==3)=true->inR i64 (b.i*2 ^ min
 (Int.toNat n) 64)=true/\leb 0 n=true/\inR i64 (n+1)=true/\([(9700,HO.blk (Blk.mk (Cont.vals (A1l a b.H)) 2 (length b.H) none (some true) true false)),(320,HO.blk (Blk.mk
 (Cont.cells [AV.full 9700 (length b.H)]) 1 1 none (some false) true true)),(384,HO.blk (Blk.mk (Cont.cells [AV.fn 39 [] [AV.ptr 64 0,AV.ptr 384 0,AV.ptr 320 0]]) 1 1 none (some false)
 true true)),(64,HO.blk (Blk.mk (Cont.cells [AV.imm (Cont.ints i64 a) (length a) none,AV.imm (Cont.ints u8 k) (length k) none]) 2 1 none (some false) true true))]=[(9700,HO.blk (Blk.mk
 (Cont.vals (A1l a (unK (A1l a b.H)))) 2 zz2 none (some true) true false)),(320,HO.blk (Blk.mk (Cont.cells [AV.full 9700 zz2]) 1 1 none (some false) true true)),(384,HO.blk (Blk.mk
 (Cont.cells [AV.fn 39 [] [AV.ptr 64 0,AV.ptr 384 0,AV.ptr 320 0]]) 1 1 none (some false) true true)),(64,HO.blk (Blk.mk (Cont.cells [AV.imm (Cont.ints i64 a) (length a) none,AV.imm
 (Cont.ints u8 k) (length k) none]) 2 1 none (some false) true true))]/\0<=n+1/\Int.toNat (n+1)=Int.toNat n+1/\Int.toNat n+1<=length k/\okM (A4A BinOp.or i64 m (b.i*2 ^ min
 (Int.toNat n) 64)) (Int.toNat n+1)/\okH k (Int.toNat n+1) (unK (A1l a b.H)))/\inR i64 (b.i+1)=true/\length (A2Z a k (A4A BinOp.or i64 m (b.i*2 ^ min (Int.toNat n) 64)) zz0
 (unK (A1l a b.H)))=length (unK (A1l a (A2Z a k (A4A BinOp.or i64 m (b.i*2 ^ min (Int.toNat n) 64)) zz0 (unK (A1l a b.H)))))/\A1l a (A2Z a k (A4A BinOp.or i64 m (b.i*2 ^ min
 (Int.toNat n) 64)) zz0 (unK (A1l a b.H)))=A1l a (unK (A1l a (A2Z a k (A4A BinOp.or i64 m (b.i*2 ^ min (Int.toNat n) 64)) zz0 (unK (A1l a b.H)))))/\1=1/\length (A2Z a k (A4A
 BinOp.or i64 m (b.i*2 ^ min (Int.toNat n) 64)) zz0 (unK (A1l a b.H)))=length (unK (A1l a (A2Z a k (A4A BinOp.or i64 m (b.i*2 ^ min (Int.toNat n) 64)) zz0 (unK (A1l a b.H)))))/\1
 =1/\0=0/\0=0/\0=0/\1=1/\qs i64 a (qs u8 k (m=m/\n=n/\0=0/\0=0/\b.i+1=b.i+1/\zz1/\2-Int.toNat (b.i+1)<2-Int.toNat b.i/\True)))/\((getD zz3 0 0==
 3)=false->inR i64 (b.i+1)=true/\length b.H=length (unK (A1l a b.H))/\A1l a b.H=A1l a (unK (A1l a b.H))/\1=1/\length b.H=length (unK (A1l a b.H))/\1=1/\0=0/\0=
 0/\0=0/\1=1/\qs i64 a (qs u8 k (m=m/\n=n/\0=0/\0=0/\b.i+1=b.i+1/\(∃(i:Nat),b.i+1=(↑i:Int)/\i<=2/\unK (A1l a b.H)=A9W a k m (Int.toNat n) H i)/\2-
 Int.toNat (b.i+1)<2-Int.toNat b.i/\True)))))))/\(ltb b.i 2=false->length b.H=length (A2Z a k m (Int.toNat n) H)/\A1l a b.H=A1l a (A2Z a k m (Int.toNat n) H)/\1=1/\
 length b.H=length (A2Z a k m (Int.toNat n) H)/\1=1/\0=0/\0=0/\0=0/\1=1/\qs i64 a (qs u8 k (True)))) (∃(i:Nat),b.i+1=(↑i:Int)/\i<=2/\unK (A1l a (A2Z a k
 (A4A BinOp.or i64 m (b.i*2 ^ min (Int.toNat n) 64)) zz0 (unK (A1l a b.H))))=A9W a k m (Int.toNat n) H i)) (length (unK (A1l a b.H))))))/\(ltb n (↑(length k):Int)=false->(length
 a=length a/\length a<1000000)/\length a=length a/\leb 0 n=true/\leb n n=true/\leb (n*1) 140737488355328=true/\qx (Int.toNat n) (length H=length H/\A1l a H=A1l a H
 /\1=1/\length H=length H/\1=1/\0=0/\0=0/\0=0/\1=1/\qs i64 a (qs u8 k (qx (Int.toNat n) (qx (Int.toNat n) (qx (replicate (Int.toNat n) (0:Int)) (1=1/\qs i64 a
 (length a=length a/\qx (Int.toNat n) (m=m/\0=0/\0=0/\qx (↑(Int.toNat n):Int) (iI 0=0/\(∃(i:Nat),0=(↑i:Int)/\i<=Int.toNat n/\replicate (Int.toNat n) (0:Int)=
 take i (kdM m (Int.toNat n))++replicate (Int.toNat n-i) (0:Int))/\∀(b:LKk),(∃(i:Nat),b.i=(↑i:Int)/\i<=Int.toNat n/\b.h=take i (kdM m (Int.toNat n))++replicate
 (Int.toNat n-i) (0:Int))->(ltb b.i (↑(Int.toNat n):Int)=true->leb 0 b.i=true/\inR i64 (1+A4A BinOp.and i64 (Int.fdiv m (2 ^ min (Int.toNat b.i) 64)) 1)=true/\inR u8 (1+
 A4A BinOp.and i64 (Int.fdiv m (2 ^ min (Int.toNat b.i) 64)) 1)=true/\leb 0 b.i=true/\ltb b.i (↑(Int.toNat n):Int)=true/\qx (Int.toNat n) (qx (Int.toNat n) (A0R (Int.toNat b.i+
 1) (Cont.size (Cont.ints u8 b.h))=true/\inR i64 (b.i+1)=true/\length H=length H/\A1l a H=A1l a H/\1=1/\length H=length H/\1=1/\0=0/\0=0/\0=0/\1=1/\qs i64
 a (qs u8 k (qx (Int.toNat n) (qx (Int.toNat n) (qx (set b.h (Int.toNat b.i) (1+A4A BinOp.and i64 (Int.fdiv m (2 ^ min (Int.toNat b.i) 64)) 1)) (1=1/\qs i64 a (length a=length a/\qx
 (Int.toNat n) (m=m/\0=0/\0=0/\qx (↑(Int.toNat n):Int) (b.i+1=b.i+1/\(∃(i:Nat),b.i+1=(↑i:Int)/\i<=Int.toNat n/\set b.h (Int.toNat b.i) (1+A4A BinOp.and i64
 (Int.fdiv m (2 ^ min (Int.toNat b.i) 64)) 1)=take i (kdM m (Int.toNat n))++replicate (Int.toNat n-i) (0:Int))/\Int.toNat n-Int.toNat (b.i+1)<Int.toNat n-Int.toNat b.i/\
 True)))))))))))/\(ltb b.i (↑(Int.toNat n):Int)=false->qx (Int.toNat n) ((length a=length a/\Int.toNat n=length b.h/\length a<1000000000/\length b.h<1000000000)/\((okD a b.h
 &&A2A a b.h)=true->length H=length H/\A0R ((length H+1)*48) 140737488355328=true/\length H+1=length (A2Z a k m (Int.toNat n) H)/\A1l a H++[AV.imm (Cont.ints i64 a)
 (length a) (some (length a)),AV.imm (Cont.ints u8 b.h) (Int.toNat n) (some (Int.toNat n))]=A1l a (A2Z a k m (Int.toNat n) H)/\1=1/\length H+1=length (A2Z a k m (Int.toNat n) H)
 /\1=1/\0=0/\0=0/\0=0/\1=1/\qs i64 a (qs u8 k (True)))/\((okD a b.h&&A2A a b.h)=false->length H=length (A2Z a k m (Int.toNat n) H)/\A1l a H=A1l a (A2Z a k m
 (Int.toNat n) H)/\1=1/\length H=length (A2Z a k m (Int.toNat n) H)/\1=1/\0=0/\0=0/\0=0/\1=1/\qs i64 a (qs u8 k (True)))))))))))))))) (Int.toNat (n+1))) (drop
 (Int.toNat n) k)):=by kernel_rfl
theorem C28 (vs:List AV)(n:Nat):fnP (T0) G 10000 C7T (.r [] 0 (.r [] 5 .nil)) ([.imm (.vals vs) n none]) ([.imm (.vals vs) n (some n)]) ([])=(
 Int.toNat (↑n:Int)=n/\Int.toNat (↑n:Int)=n/\Cont.size (Cont.vals vs)=n*2/\Cont.vals vs=Cont.vals vs/\n=n/\n=n/\True):=by kernel_rfl
theorem C29 (a k:List Int):fnP (T19 a k) G 10000 C7z (.r [] 0 (.r [] 1 (.r [] 0 (.cnd (.r [] 0 .nil) (.r [] 0 (.r [] 0 (.ghc 320 0 9700 2 (Cont.vals []) (.jn (j19 a) [1] [] (.r [] 1 .nil) (fun b=>(.r [(513,.auto,Dr.heap)] 1 (.frz 5 0 (.r [] 1 .nil)))))))))))) ([A2W a k]) ([D40 a k,.int .i64 (chk a k)]) ([])=(
 (length a=length a/\length k=length k/\length a<1000000000000)/\((chk a k !=0)=true->Cont.size (Cont.vals (A1l a (A1a a k)))=0/\length (A1a a k)=0/\length (A1a a k)
 =0/\chk a k=chk a k/\True)/\((chk a k !=0)=false->(1=1/\qs i64 a (qs u8 k (1=1/\0=0/\1=1/\0=0/\0=0/\0=0/\0=0/\([]:List AV)=[]/\0=0/\0=0/\True/\
 True)))/\∀(b:Unit),True->([(9700,HO.blk (Blk.mk (Cont.vals []) 2 0 none (some true) true false)),(320,HO.blk (Blk.mk (Cont.cells [AV.full 9700 0]) 1 1 none (some false) true true)),
 (384,HO.blk (Blk.mk (Cont.cells [AV.fn 39 [] [AV.ptr 64 0,AV.ptr 384 0,AV.ptr 320 0]]) 1 1 none (some false) true true)),(64,HO.blk (Blk.mk (Cont.cells [AV.imm (Cont.ints i64 a) (length
 a) none,AV.imm (Cont.ints u8 k) (length k) none]) 2 1 none (some false) true true))]=[(9700,HO.blk (Blk.mk (Cont.vals []) 2 0 none (some true) true false)),(320,HO.blk (Blk.mk
 (Cont.cells [AV.full 9700 0]) 1 1 none (some false) true true)),(384,HO.blk (Blk.mk (Cont.cells [AV.fn 39 [] [AV.ptr 64 0,AV.ptr 384 0,AV.ptr 320 0]]) 1 1 none (some false) true true)),
 (64,HO.blk (Blk.mk (Cont.cells [AV.imm (Cont.ints i64 a) (length a) none,AV.imm (Cont.ints u8 k) (length k) none]) 2 1 none (some false) true true))]/\iI 0=0/\iI 0=0/\chk a k=0)/\
 qx (length (A2Z a k 0 0 [])) (length (A1l a (A2Z a k 0 0 []))=length (A2Z a k 0 0 [])*2/\Cont.vals (A1l a (A2Z a k 0 0 []))=Cont.vals (A1l a (A1a a k))/\length (A2Z a k 0 0
 [])=length (A1a a k)/\length (A2Z a k 0 0 [])=length (A1a a k)/\0=chk a k/\True))):=by kernel_rfl
theorem C3a (a k:List Int):fnP (T31) G 10000 C7K (.r [] 0 (.r [] 13 (.r [] 0 .nil))) ([A2W a k]) ([.bool (C4b a k),.int .i64 (chk a k)]) ([])=(
 (length a=length a/\length k=length k/\length a<1000000/\length k<1000000)/\ltb 0 (↑(length (A1a a k)):Int)=C4b a k/\chk a k=chk a k/\True):=by kernel_rfl
set_option linter.unusedSimpArgs false
theorem two {l:List Int}(h:l.length=2):∃x y,l=[x,y]:=by
 match l,h with
 |[x,y],_=>exact⟨x,y,rfl⟩
theorem D7v (a k:List Int)(hz:a.length<1000000000)(hkz:k.length<1000000000):SpecP Tryz.prog G 20 [A2W a k] (.tup [.bool (okD a k&&A2A a k),.int .i64 (dcd a k)]) []:=by
 refine A0e hcm hmx D6U D2y rfl (C5H a k) ?_;dsimp -failIfUnchanged -proj -eta -iota -zeta only[rd,rdw,qs,ql,qx];simp only[A0h,A0x,A0k,A0M,A0u,A2c,A0t,A1u,A0p,A12,A1v,A0i,A0F,A0y,A0H,A0Q,List.getElem?_drop,beq_iff_eq,beq_eq_false_iff_ne,bne_iff_ne,bne_eq_false_iff_eq,ne_eq,Nat.zero_add,Nat.add_zero,Nat.mul_one,Int.toNat_natCast,and_true,true_and,List.length_drop,List.length_append,List.length_cons,List.length_nil,List.length_set,List.getD_eq_getElem?_getD,implies_true,iI,iL,Bool.not_eq_true',Bool.not_eq_false',Int.natCast_inj,List.drop_zero,Bool.and_eq_true,Bool.not_not,Bool.and_true,Bool.true_and];refine⟨by omega,fun h=>?_,fun h=>?_⟩
 ·have e:okD a k=false:=by simpa[okD]using h
  simp[e]
 ·have hok:=C0A h;obtain⟨q1,q2,q3⟩:=rd_ok hok;have eD:okD a k=true:=B7l.2 h;have hb:=B9v (a:=rdA a k) (k:=rdK a k);rw[q3]at hb;have hl:=A4t q1;have hl2:=hl.2 (by omega);have hl:=hl.1;simp only[B7g eD,eD,Bool.true_and];generalize rdA a k=A at*;generalize rdK a k=K at*;generalize A2A a k=B at*;simp only[bLs,cond_true];have hi0:A.length≠0->((A.length:Int)==0)=false:=fun h=>beq_eq_false_iff_ne.2 (by omega);refine⟨fun h0=>?_,fun h0=>⟨fun h2=>⟨fun h3=>?_,fun h3=>?_⟩,fun h2=>?_⟩⟩
  ·have eB:B=true:=hb.2 (.inl h0);simp[h0,eB,h]
  ·have eB:(K[0]?.getD 0==K[1]?.getD 0)=B:=by
    rw[Bool.eq_iff_iff,hb,beq_iff_eq];omega
   obtain⟨x,y,rfl⟩:=two h2;obtain⟨u,v,rfl⟩:=two (hl.trans h2);simp at h3 eB;simp[h3,eB,h]
  ·have eB:B=false:=by
    rw[Bool.eq_false_iff];intro hB;have:=hb.1 hB;omega
   obtain⟨x,y,rfl⟩:=two h2;obtain⟨u,v,rfl⟩:=two (hl.trans h2);simp at h3;simp[h3,eB,h]
  ·have eB:B=false:=by
    rw[Bool.eq_false_iff];intro hB;have:=hb.1 hB;omega
   have e1:¬ (A.length:Int)=2:=by omega
   have e2:¬ A=[]:=fun e=>h0 (by rw[e];rfl);simp[h2,hl,h0,e1,e2,eB,h]
theorem D41:A1j Tryz.prog G 20 e14:=by
 intro args r h hp;unfold e14 at h;split at h<;>cases h;obtain⟨rfl,rfl,h1,h2⟩:=hp;exact(D7v _ _ h1 h2).caps
theorem B9J:(List.range 8).all (fun n=>(List.range (2 ^ n)).all fun m=>(List.range 2).all fun b=>A4A BinOp.or .i64 ((m:Nat):Int) (((b:Nat):Int)*2 ^ n)==(m:Int)+(b:Int)*2 ^ n)=true:=by decide +kernel
theorem C6q {m:Int}{n b:Nat}(hm:okM m n)(hn:n<8)(hb:b<2):A4A BinOp.or .i64 m ((b:Int)*2 ^ n)=m+b*2 ^ n:=by
 obtain⟨h0,h1,_⟩:=hm;have h1':m.toNat<2 ^ n:=by
  have:((2 ^ n:Nat):Int)=2 ^ n:=by simp
  omega
 have:=List.all_eq_true.1 B9J n (List.mem_range.2 hn);have:=List.all_eq_true.1 this m.toNat (List.mem_range.2 h1');have:=List.all_eq_true.1 this b (List.mem_range.2 hb);rw[show((m.toNat:Nat):Int)=m by omega]at this;exact eq_of_beq this
theorem B9K:(List.range 256).all (fun m=>(List.range 8).all fun i=>A4A BinOp.and .i64 (((m:Nat):Int).fdiv (2 ^ i)) 1==(((m:Nat):Int).fdiv (2 ^ i)).fmod 2)=true:=by decide +kernel
theorem C3b {m:Int}{n i:Nat}(hm:okM m n)(hi:i<8):A4A BinOp.and .i64 (m.fdiv (2 ^ i)) 1=(m.fdiv (2 ^ i)).fmod 2:=by
 obtain⟨h0,h1,h2⟩:=hm;have h1':m.toNat<256:=by
  have h3:(2:Int) ^ n<=256:=(by decide:∀n,n<9->(2:Int) ^ n<=256) n (by omega);omega
 have:=List.all_eq_true.1 B9K m.toNat (List.mem_range.2 h1');have:=List.all_eq_true.1 this i (List.mem_range.2 hi);rw[show((m.toNat:Nat):Int)=m by omega]at this;exact eq_of_beq this
theorem C6r (m i:Int):1<=kB m i/\kB m i<=2:=by
 unfold kB;have h1:=Int.fmod_nonneg_of_pos (m.fdiv (2 ^ i.toNat)) (b:=2) (by decide);have h2:=Int.fmod_lt_of_pos (m.fdiv (2 ^ i.toNat)) (b:=2) (by decide);omega
theorem B7J (m:Int)(n:Nat):(kdM m n).length=n:=by unfold kdM;rw[List.length_map,List.length_range]
theorem C3c {m:Int}{n i:Nat}(h:i<n):((kdM m n).take i++List.replicate (n-i) 0).set i (kB m i)=(kdM m n).take (i+1)++List.replicate (n-(i+1)) 0:=by
 have hl:=B7J m n;have ht:((kdM m n).take i).length=i:=by rw[List.length_take];omega
 rw[List.set_append_right _ _ (by omega),ht,Nat.sub_self,show n-i=(n-(i+1))+1 by omega,List.replicate_succ,List.set_cons_zero,List.take_add_one,List.getElem?_eq_getElem (by omega)];have:(kdM m n)[i]=kB m i:=by unfold kdM;rw[List.getElem_map,List.getElem_range]
 rw[this,List.append_assoc];rfl
theorem C3d (a:List Int)(H:List (List Int)):unK (A1l a H)=H:=by
 induction H with
 |nil=>rfl
 |cons x r ih=>
  show x::unK (A1l a r)=_;rw[ih]
theorem B9L (a:List Int)(H:List (List Int)):(A1l a H).length=H.length*2:=by
 induction H with
 |nil=>rfl
 |cons x r ih=>
  show(A1l a r).length+2=_;rw[ih,List.length_cons];omega
theorem B2L (k:List Int):∀(f:Nat) (m:Int) (n:Nat),(chL k f m n).length<=2 ^ f
 |0,m,n=>by simp[chL]
 |f+1,m,n=>by
  unfold chL;have h1:=B2L k f m (n+1);have h2:=B2L k f (m+2 ^ n) (n+1);rw[List.length_append,Nat.pow_succ];have c:∀(b:Bool) (l:List (List Int)),(cond b l []).length<=l.length:=fun b l=>by cases b<;>simp
  have:=c (A9V k n 0) (chL k f m (n+1));have:=c (A9V k n 1) (chL k f (m+2 ^ n) (n+1));omega
theorem B9M {a k:List Int}{m:Int}{n:Nat}{H:List (List Int)}:(A2Z a k m n H).length<=H.length+2 ^ (k.length-n):=by
 unfold A2Z;have h1:=B2L k (k.length-n) m n;have h2:=List.length_filter_le (fun h=>A2A a h) (chL k (k.length-n) m n);rw[List.length_append];omega
theorem B1D (a k:List Int)(m:Int)(n:Nat)(H:List (List Int)):A9W a k m n H 0=H:=by
 unfold A9W;rw[show ltn 0 0=false from rfl,show ltn 1 0=false from rfl];simp
theorem C6s {a k:List Int}{m:Int}{n:Nat}{H:List (List Int)}(h:n<k.length):A9W a k m n H 2=A2Z a k m n H:=by
 unfold A9W A2Z;rw[show k.length-n=(k.length-(n+1))+1 by omega];rfl
theorem A9X {a k:List Int}{m:Int}{n:Nat}{H:List (List Int)}{b:Nat}(hb:b<2)(h:A9V k n b=true):A2Z a k (m+b*2 ^ n) (n+1) (A9W a k m n H b)=A9W a k m n H (b+1):=by
 have hb2:b=0\/b=1:=by omega
 rcases hb2 with rfl|rfl
 ·rw[B1D];unfold A9W A2Z;rw[h,show ltn 0 (0+1)=true from rfl,show ltn 1 (0+1)=false from rfl];simp
 ·unfold A9W A2Z;rw[h,show ltn 0 1=true from rfl,show ltn 1 1=false from rfl,show ltn 0 (1+1)=true from rfl,show ltn 1 (1+1)=true from rfl];simp
theorem B7K {a k:List Int}{m:Int}{n:Nat}{H:List (List Int)}{b:Nat}(hb:b<2)(h:A9V k n b=false):A9W a k m n H b=A9W a k m n H (b+1):=by
 have hb2:b=0\/b=1:=by omega
 rcases hb2 with rfl|rfl
 ·unfold A9W;rw[h,show ltn 0 0=false from rfl,show ltn 1 0=false from rfl,show ltn 0 (0+1)=true from rfl,show ltn 1 (0+1)=false from rfl];simp
 ·unfold A9W;rw[h,show ltn 0 1=true from rfl,show ltn 1 1=false from rfl,show ltn 0 (1+1)=true from rfl,show ltn 1 (1+1)=true from rfl];simp
theorem B7L {a k:List Int}{m:Int}{n:Nat}{H:List (List Int)}(h:k.length<=n):A2Z a k m n H=if A2A a (kdM m n)=true then H++[kdM m n]else H:=by
 unfold A2Z;rw[show k.length-n=0 by omega];show H++List.filter _ [kdM m n]=_;cases hf:A2A a (kdM m n)<;>simp[List.filter,hf]
theorem C0K {a h:List Int}(ha:okA a)(hl:a.length=h.length)(hk:∀x∈h,1<=x/\x<=2):okD a h=true:=by
 have hc:=C0x hl ha fun x hx=>⟨(hk x hx).1,by have:=(hk x hx).2;omega⟩;have hm:A1q h 3=false:=A4x.2 fun hm=>by have:=(hk 3 hm).2;omega
 unfold okD dcd;rw[if_pos hc,hm];rfl
theorem C3e {m:Int}{n:Nat}{x:Int}(h:x∈kdM m n):1<=x/\x<=2:=by
 unfold kdM at h;obtain⟨i,_,rfl⟩:=List.mem_map.1 h;exact C6r m i
def S39 (a k:List Int)(m n:Int)(H:List (List Int)):Prop:=
 SpecD Tryz.prog G (.fn 39 [] []) [.int .i64 m,.int .i64 n,.ptr 64 0,.ptr 384 0,.ptr 320 0] (hpK a k H) (.tup []) (wsK a (A2Z a k m n.toNat H)) []
theorem C0L {a k:List Int}{q:Nat}(hS:q<=k.length->∀m n H,0<=n->n.toNat=q->okM m q->okH k q H->S39 a k m n H):
  ∀h cv args e,chK a k q h cv args=some e->optP e.p->SpecD Tryz.prog G cv args h e.v e.ws []:=by
 intro h cv args e he hp;unfold chK at he;split at he
 ·rename_i f m n c g u vs _ _ _ _ _ _ h1;rw[cond_eq_ite]at he;split at he
  ·rename_i hk;cases he;simp only[Bool.and_eq_true]at hk;have e1:=Nat.eq_of_beq_eq_true hk.1;have e2:=Nat.eq_of_beq_eq_true hk.2.1;have e3:=Nat.eq_of_beq_eq_true hk.2.2.1;have e4:=Nat.eq_of_beq_eq_true hk.2.2.2;subst e1 e2 e3 e4;obtain⟨rfl,h0,hq,hl,hM,hH⟩:=hp;exact hS hl m n _ h0 hq hM hH
  ·cases he
 ·cases he
theorem D42:A3W Tryz.prog G tK:=⟨C56,C8w,D41,trivial⟩
theorem B1E {a k:List Int}{m n:Int}{H:List (List Int)}(hc:chk a k=0)(hT:TabOk Tryz.prog G (TK a k (n.toNat+1)))(h0:0<=n)(hq:n.toNat<=k.length)(hM:okM m n.toNat)(hH:okH k n.toNat H):S39 a k m n H:=by
 obtain⟨hl,hA,hk⟩:=A1V hc;have ha:=A2k hA;unfold S39;refine A2b hcm hmx hT D27 rfl (C27 a k m n H) ?_;dsimp -failIfUnchanged -proj -eta -iota -zeta only[rd,rdw,qs,ql,qx];obtain⟨p,rfl⟩:∃p:Nat,n=p:=⟨n.toNat,by omega⟩;simp only[Int.toNat_natCast]at hq hM hH;have hgR:∀x:List Int,List.getD (List.drop p x) 0 0=gR x p:=fun x=>by
  have:=gR0 (r:=x) (c:=(p:Int))
  rwa [Int.toNat_natCast]at this
 simp only[Int.toNat_natCast,C3d,A0p,A12,and_true,true_and,A0k,A0M,A0h,A0x,A0u,A0t,iI,A0i,List.length_drop,forall_const,true_imp_iff,beq_iff_eq,beq_eq_false_iff_ne,ne_eq,hgR];refine⟨fun h1=>⟨⟨0,rfl,by omega,(B1D ..).symm⟩,?_⟩,fun h1=>⟨by omega,by omega,by omega,by omega,⟨0,rfl,by omega,by simp⟩,?_⟩⟩
 ·rintro⟨i,M⟩ ⟨j,hi,hj,hMm⟩;simp only at hi hMm ⊢;subst hi;subst hMm;refine⟨fun h2=>?_,fun h2=>?_⟩
  ·have hj2:j<2:=by omega
   have hmin:min p 64=p:=by omega
   have hor:=C6q (b:=j) hM (by omega) hj2;have hp2:(2:Int) ^ p<=128:=(by decide:∀n,n<8->(2:Int) ^ n<=128) p (by omega);have hp3:(0:Int)<2 ^ p:=(by decide:∀n,n<8->(0:Int)<2 ^ n) p (by omega);have hj3:(j:Int)=0\/(j:Int)=1:=by omega
   have hjp:0<=(j:Int)*2 ^ p/\(j:Int)*2 ^ p<=2 ^ p:=by
    rcases hj3 with e|e<;>rw[e]<;>omega
   have hpn:((p:Int)+1).toNat=p+1:=by omega
   have hM2:okM (m+j*2 ^ p) (p+1):=by
    obtain⟨m0,m1,m2⟩:=hM;refine⟨by omega,?_,by omega⟩;rw[Int.pow_succ];omega
   have hH2:okH k (p+1) (A9W a k m p H j):=by
    have e:2 ^ (k.length-p)=2*2 ^ (k.length-(p+1)):=by
     rw[show k.length-p=(k.length-(p+1))+1 by omega,Nat.pow_succ];omega
    unfold okH at hH ⊢;have hlen:(A9W a k m p H j).length<=H.length+2 ^ (k.length-(p+1)):=by
     have hjj:j=0\/j=1:=by omega
     rcases hjj with rfl|rfl
     ·rw[B1D];omega
     ·cases hf:A9V k p 0 with
      |true=>
       rw[<- A9X (b:=0) (by omega) hf,B1D];exact B9M
      |false=>rw[<- B7K (b:=0) (by omega) hf,B1D];omega
    omega
   rw[hmin,hor,hpn];have fit1:gR k p=1+(j:Int)->A9V k p j=true:=fun h=>by unfold A9V;rw[h];simp
   have fit2:gR k p=3->A9V k p j=true:=fun h=>by unfold A9V;rw[h];simp
   have fit3:¬ gR k p=1+(j:Int)->¬ gR k p=3->A9V k p j=false:=fun h h'=>by
    unfold A9V;rw[beq_false_of_ne h,beq_false_of_ne h'];rfl
   refine⟨by omega,by omega,by omega,by omega,by omega,by omega,fun h3=>⟨by omega,by omega,by omega,⟨by omega,by omega,by omega,hM2,hH2⟩,by omega,⟨j+1,by omega,by omega,A9X hj2 (fit1 h3)⟩,by omega⟩,fun h3=>⟨by omega,by omega,by omega,by omega,fun h4=>⟨by omega,by omega,by omega,⟨by omega,by omega,by omega,hM2,hH2⟩,by omega,⟨j+1,by omega,by omega,A9X hj2 (fit2 h4)⟩,by omega⟩,fun h4=>⟨by omega,⟨j+1,by omega,by omega,B7K hj2 (fit3 h3 h4)⟩,by omega⟩⟩⟩
  ·have:j=2:=by omega
   subst this;rw[C6s (by omega)];exact⟨rfl,rfl,rfl⟩
 ·rintro⟨i,b⟩ ⟨j,hi,hj,hb⟩;simp only at hi hb ⊢;subst hi;subst hb;have hkl:=B7J m p;have hpk:p=k.length:=by omega
  have hH2:H.length+1<=1000:=by
   unfold okH at hH;have:0<2 ^ (k.length-p):=Nat.pow_pos (by decide);omega
  simp only[Int.toNat_natCast,List.length_append,List.length_take,List.length_replicate,hkl];refine⟨fun h2=>?_,fun h2=>?_⟩
  ·have hm:min j 64=j:=by omega
   have hb:=C6r m j;have e:1+A4A BinOp.and .i64 (m.fdiv (2 ^ min j 64)) 1=kB m j:=by
    rw[hm,C3b hM (by omega)];unfold kB;rw[Int.toNat_natCast]
   rw[e];exact⟨by omega,by omega,by omega,by omega,by omega,by omega,by omega,⟨j+1,by omega,by omega,C3c (by omega)⟩,by omega⟩
  ·have:j=p:=by omega
   subst this;have e:(kdM m j).take j++List.replicate (j-j) 0=kdM m j:=by
    rw[List.take_of_length_le (by omega),Nat.sub_self];simp
   rw[e,C0K hA (by omega) fun x hx=>C3e hx,Bool.true_and,B7L (by omega)];refine⟨by omega,fun h3=>?_,fun h3=>?_⟩
   ·rw[if_pos h3,List.length_append];refine⟨by omega,rfl,?_,rfl⟩;unfold A1l;rw[List.flatMap_append];show _=_++[A10 .i64 a,A10 .u8 (kdM m j)];unfold A10;rw[hkl]
   ·rw[h3,if_neg (by decide)];exact⟨rfl,rfl,rfl⟩
theorem C6t {a k:List Int}(hc:chk a k=0):∀(d q:Nat),q+d=k.length->∀m n H,0<=n->n.toNat=q->okM m q->okH k q H->S39 a k m n H
 |0,q,hd,m,n,H,h0,hq,hM,hH=>by
  subst hq;exact B1E hc (A0q (C0L fun h=>by omega) D42) h0 (by omega) hM hH
 |d+1,q,hd,m,n,H,h0,hq,hM,hH=>by
  subst hq;exact B1E hc (A0q (C0L fun h=>C6t hc d (n.toNat+1) (by omega)) D42) h0 (by omega) hM hH
theorem D1j {a k:List Int}(hc:chk a k=0):SpecD Tryz.prog G (.fn 39 [] []) [.int .i64 0,.int .i64 0,.ptr 64 0,.ptr 384 0,.ptr 320 0] (hpK a k []) (.tup []) (wsK a (A2Z a k 0 0 [])) []:=by
 obtain⟨hl,hA,_⟩:=A1V hc;have ha:=A2k hA;refine C6t hc k.length 0 (by omega) 0 0 [] (by omega) rfl ⟨by omega,by decide,by omega⟩ ?_;unfold okH;have:2 ^ (k.length-0)<=256:=(by decide:∀n,n<9->2 ^ n<=256) _ (by omega);simp only[List.length_nil];omega
theorem B9N {a k:List Int}:∀h cv args e,C26 a k h cv args=some e->optP e.p->SpecD Tryz.prog G cv args h e.v e.ws []:=by
 intro h cv args e he hp;unfold C26 at he;split at he
 ·rename_i f m n c g u vs _ _ _ _ _ _ h1;rw[cond_eq_ite]at he;split at he
  ·rename_i hk;cases he;simp only[Bool.and_eq_true]at hk;have e1:=Nat.eq_of_beq_eq_true hk.1;have e2:=Nat.eq_of_beq_eq_true hk.2.1;have e3:=Nat.eq_of_beq_eq_true hk.2.2.1;have e4:=Nat.eq_of_beq_eq_true hk.2.2.2;subst e1 e2 e3 e4;obtain⟨rfl,rfl,rfl,hc⟩:=hp;exact D1j hc
  ·cases he
 ·cases he
theorem D1k:A1j Tryz.prog G 42 e42:=by
 intro args r h hp;unfold e42 at h;split at h<;>cases h;rename_i vs n _;refine(A0e hcm hmx A3w D3b rfl (C28 vs n) ?_:SpecP Tryz.prog G 42 [.imm (.vals vs) n none] _ []).caps;simp only[A0y,Int.toNat_natCast,and_true,true_and];exact hp
theorem D1l (a k:List Int):TabOk Tryz.prog G (T19 a k):=A0q B9N ⟨C91,D1k,trivial⟩
theorem C6u:A1j Tryz.prog G 19 C8B:=by
 intro args r h hp;unfold C8B at h;split at h<;>cases h;rename_i a n _ k m _;obtain⟨rfl,rfl,hz,hz2⟩:=hp;refine A1O (A0e hcm hmx (D1l a k) D2w rfl (C29 a k) ?_);dsimp -failIfUnchanged -proj -eta -iota -zeta only[rd,rdw,qs,ql,qx];unfold A1a;simp only[and_true,true_and,bne_iff_ne,ne_eq,bne_eq_false_iff_eq,A0y,B9L];refine⟨by omega,fun h=>?_,fun h=>?_⟩
 ·rw[if_neg h];exact⟨rfl,rfl,rfl⟩
 ·rw[if_pos h];simp[h]
theorem D1m:TabOk Tryz.prog G T31:=A0q A0C ⟨C6u,trivial⟩
theorem C6v:A1j Tryz.prog G 31 C8C:=by
 intro args r h hp;unfold C8C at h;split at h<;>cases h;rename_i a n _ k m _;obtain⟨rfl,rfl,hz,hz2⟩:=hp;refine A1O (A0e hcm hmx D1m D2S rfl (C3a a k) ?_);simp only[and_true,true_and];exact⟨⟨hz,hz2⟩,rfl⟩
end Go.Proofs.YthiammkiobbclaaGreatDoor.X
