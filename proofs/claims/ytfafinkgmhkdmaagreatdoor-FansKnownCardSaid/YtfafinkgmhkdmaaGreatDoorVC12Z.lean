/-
 What the parser of fans computes; the law on texts.
-/
import Derived.Test.YtfafinkgmhkdmaaGreatDoorVC15Z
set_option maxRecDepth 1000000
set_option linter.unusedVariables false
namespace Go.Proofs.YtfafinkgmhkdmaaGreatDoor.X
open Go Go.Ab
def okP (p:List UInt8):Bool:=p.length==2&&(decide (49<=(p.getD 1 0).toNat)&&decide ((p.getD 1 0).toNat<=56))
def B8n (p:List UInt8):Int:=((p.getD 1 0).toNat:Int)-48
def B0Q (p:List UInt8):Int:=1+ixB [109,118,97] ((p.getD 0 0).toNat:Int)
def pcA (l:List (List UInt8)):List Int:=l.map B8n
def pcK (l:List (List UInt8)):List Int:=l.map B0Q
def okT (t:List UInt8):Bool:= !(t==[45])&&((A0f t).all okP&&chk (pcA (A0f t)) (pcK (A0f t))==0)
def A2b (t:List UInt8):List Int:=bif okT t then pcA (A0f t)else[]
def A2f (t:List UInt8):List Int:=bif okT t then pcK (A0f t)else[]
def A5t (t:List UInt8):Int:=bif okT t||t==[45]then 0 else 4
def C9P (a k:List Int):AV:=.agg [.imm (.ints .i64 a) a.length (some a.length),.imm (.ints .u8 k) k.length (some k.length)]
def e35:CtE
 |[.str t]=>some ⟨.tup [C9P (A2b t) (A2f t),.int .i64 (A5t t)],[],some (t.length<1000000)⟩
 |_=>none
structure L35 where (i:Int)(a k:List Int)
def l35 (t:List UInt8):LpS L35 where
 ov b:=[(13,.int .i64 b.i)]
 bk b:=[(256,.blk ⟨.cells [.full 9001 b.a.length,.full 9002 b.k.length],2,1,none,some false,true,true⟩),(9001,.blk (C1I b.a)),(9002,.blk (C1J b.k))]
 rd S:=match aget S.t 13,aget S.h 9001,aget S.h 9002 with
  |some (.int _ i),some (.blk ⟨.ints _ a,_,_,_,_,_,_⟩),some (.blk ⟨.ints _ k,_,_,_,_,_,_⟩)=>some ⟨i,a,k⟩
  |_,_,_=>none
 pre b:=∃n:Nat,b.i=n/\n<=(A0f t).length/\((A0f t).take n).all okP=true/\b.a=pcA ((A0f t).take n)/\b.k=pcK ((A0f t).take n)
 mu b:=(A0f t).length-b.i.toNat
def yA:List (Nat×CtE):=(73,B7G)::(72,e59)::(17,e17)::(38,B0k .i64)::(39,B0k .u8)::[]
def YA:Tab:=A1V yA A2z
structure L11 where (i:Int)(s:List UInt8)
def l11 (A K:List Int):LpS L11 where
 ov b:=[(7,.int .i64 b.i),(6,.str b.s)]
 bk b:=[]
 rd S:=match aget S.t 7,aget S.t 6 with
  |some (.int _ i),some (.str s)=>some ⟨i,s⟩
  |_,_=>none
 pre b:=∃n:Nat,b.i=n/\n<=A.length/\b.s=txF (A.take n) (K.take n)
 mu b:=A.length-b.i.toNat
def zL:List (Nat×CtE):=(11,e12)::(16,e25)::(10,e26)::(47,e34)::(48,e35)::(40,e33)::(17,e17)::[]
def ZL:Tab:=A1V zL A2z
theorem C5l (t:List UInt8):fnP (YA) G 10000 C58 (.r [] 0 (.r [] 0 (.cnd (.r [] 1 .nil) (.r [] 0 (.r [] 0 (.ghc 256 0 9001 1 (Cont.ints IntKind.i64 []) (.ghc 256 1 9002 1 (Cont.ints IntKind.u8 []) (.lp (l35 t) [] [] (fun b=>(.r [] 0 (.cnd (.r [] 0 (.rs 4 [] 0 20 (.r [] 15 (.lit (.r [] 1 .nil))) (.rs 5 [] 13 25 (.r [] 3 (.lit (.r [] 1 .nil))) (.r [] 13 (.cnd (.r [] 1 .nil) (.r [] 461699 (.r [] 0 .nil))))))) (.r [] 1 (.cnd (.r [] 1 .nil) (.r [] 73 .nil)))))))))))))) ([.str t]) ([C9P (A2b t) (A2f t),.int .i64 (A5t t)]) ([])=(
((t==[45])=true->Cont.size (Cont.ints IntKind.i64 (A2b t))=0/\List.length (A2b t)=0/\List.length (A2b t)=0/\Cont.size (Cont.ints IntKind.u8 (A2f t))=0/\List.length (A2f t)=0/\
List.length (A2f t)=0/\0=A5t t/\True)/\((t==[45])=false->((32:UInt8)=32/\List.length t<1000000)/\1=1/\1=1/\0=0/\0=0/\0=0/\iL []=[]/\0=0/\iL []=[]/\0=0/\
0=0/\Cont.strs (A0f t)=Cont.strs (A0f t)/\List.length (A0f t)=List.length (A0f t)/\(↑(List.length (A0f t)):Int)=(↑(List.length (A0f t)):Int)/\iI 0=0/\(∃(n:Nat),
0=(↑n:Int)/\n<=List.length (A0f t)/\List.all (List.take n (A0f t)) okP=true/\[]=pcA (List.take n (A0f t))/\[]=pcK (List.take n (A0f t)))/\∀(b:L35),(∃(n:Nat),b.i=
(↑n:Int)/\n<=List.length (A0f t)/\List.all (List.take n (A0f t)) okP=true/\b.a=pcA (List.take n (A0f t))/\b.k=pcK (List.take n (A0f t)))->(ltb b.i (↑(List.length (A0f t))
:Int)=true->leb 0 b.i=true/\ltb b.i (↑(List.length (A0f t)):Int)=true/\ltn 0 (Cont.size (Cont.strs (A0f t)))=true/\ltn 0 (Cont.size (Cont.strs (List.drop (Int.toNat b.i) (A0f
t))))=true/\(((↑(List.length (List.getD (List.drop (Int.toNat b.i) (A0f t)) 0 [])):Int) !=2)=true->Cont.size (Cont.ints IntKind.i64 (A2b t))=0/\List.length (A2b t)=0/\List.length
(A2b t)=0/\Cont.size (Cont.ints IntKind.u8 (A2f t))=0/\List.length (A2f t)=0/\List.length (A2f t)=0/\4=A5t t/\True)/\(((↑(List.length (List.getD (List.drop (Int.toNat b.i) (A0f
t)) 0 [])):Int) !=2)=false->ltb 1 (↑(List.length (List.getD (List.drop (Int.toNat b.i) (A0f t)) 0 [])):Int)=true/\(ltb (↑(UInt8.toNat (List.getD (List.getD (List.drop (Int.toNat b.i)
(A0f t)) 0 []) (Int.toNat 1) 0)):Int) 49=true->Cont.size (Cont.ints IntKind.i64 (A2b t))=0/\List.length (A2b t)=0/\List.length (A2b t)=0/\Cont.size (Cont.ints IntKind.u8 (A2f t))
=0/\List.length (A2f t)=0/\List.length (A2f t)=0/\4=A5t t/\True)/\(ltb (↑(UInt8.toNat (List.getD (List.getD (List.drop (Int.toNat b.i) (A0f t)) 0 []) (Int.toNat 1) 0)):Int) 49=
false->ltb 1 (↑(List.length (List.getD (List.drop (Int.toNat b.i) (A0f t)) 0 [])):Int)=true/\(ltb 56 (↑(UInt8.toNat (List.getD (List.getD (List.drop (Int.toNat b.i) (A0f t)) 0 [])
(Int.toNat 1) 0)):Int)=true->Cont.size (Cont.ints IntKind.i64 (A2b t))=0/\List.length (A2b t)=0/\List.length (A2b t)=0/\Cont.size (Cont.ints IntKind.u8 (A2f t))=0/\List.length
(A2f t)=0/\List.length (A2f t)=0/\4=A5t t/\True)/\(ltb 56 (↑(UInt8.toNat (List.getD (List.getD (List.drop (Int.toNat b.i) (A0f t)) 0 []) (Int.toNat 1) 0)):Int)=false->ltb 1
(↑(List.length (List.getD (List.drop (Int.toNat b.i) (A0f t)) 0 [])):Int)=true/\inR IntKind.u8 ((↑(UInt8.toNat (List.getD (List.getD (List.drop (Int.toNat b.i) (A0f t)) 0 []) (Int.toNat 1)
0)):Int)-48)=true/\inR IntKind.i64 ((↑(UInt8.toNat (List.getD (List.getD (List.drop (Int.toNat b.i) (A0f t)) 0 []) (Int.toNat 1) 0)):Int)-48)=true/\List.length b.a=List.length b.a/\
A0X ((List.length b.a+1)*8) 140737488355328=true/\ltb 0 (↑(List.length (List.getD (List.drop (Int.toNat b.i) (A0f t)) 0 [])):Int)=true/\inR IntKind.i64 (1+ixB [109,118,97]
(↑(UInt8.toNat (List.getD (List.getD (List.drop (Int.toNat b.i) (A0f t)) 0 []) (Int.toNat 0) 0)):Int))=true/\inR IntKind.u8 (1+ixB [109,118,97] (↑(UInt8.toNat (List.getD (List.getD
(List.drop (Int.toNat b.i) (A0f t)) 0 []) (Int.toNat 0) 0)):Int))=true/\List.length b.k=List.length b.k/\A0X ((List.length b.k+1)*1) 140737488355328=true/\inR IntKind.i64 (b.i+1)
=true/\1=1/\1=1/\List.length b.a+1=List.length (b.a++[(↑(UInt8.toNat (List.getD (List.getD (List.drop (Int.toNat b.i) (A0f t)) 0 []) (Int.toNat 1) 0)):Int)-48])/\List.length b.k
+1=List.length (b.k++[1+ixB [109,118,97] (↑(UInt8.toNat (List.getD (List.getD (List.drop (Int.toNat b.i) (A0f t)) 0 []) (Int.toNat 0) 0)):Int)])/\List.length b.a+1=List.length (b.a
++[(↑(UInt8.toNat (List.getD (List.getD (List.drop (Int.toNat b.i) (A0f t)) 0 []) (Int.toNat 1) 0)):Int)-48])/\b.a++[(↑(UInt8.toNat (List.getD (List.getD (List.drop (Int.toNat b.i) (A0f
t)) 0 []) (Int.toNat 1) 0)):Int)-48]=b.a++[(↑(UInt8.toNat (List.getD (List.getD (List.drop (Int.toNat b.i) (A0f t)) 0 []) (Int.toNat 1) 0)):Int)-48]/\List.length b.k+1=List.length
(b.k++[1+ixB [109,118,97] (↑(UInt8.toNat (List.getD (List.getD (List.drop (Int.toNat b.i) (A0f t)) 0 []) (Int.toNat 0) 0)):Int)])/\b.k++[1+ixB [109,118,97] (↑(UInt8.toNat (List.getD
(List.getD (List.drop (Int.toNat b.i) (A0f t)) 0 []) (Int.toNat 0) 0)):Int)]=b.k++[1+ixB [109,118,97] (↑(UInt8.toNat (List.getD (List.getD (List.drop (Int.toNat b.i) (A0f t)) 0 [])
(Int.toNat 0) 0)):Int)]/\0=0/\0=0/\Cont.strs (A0f t)=Cont.strs (A0f t)/\List.length (A0f t)=List.length (A0f t)/\(↑(List.length (A0f t)):Int)=(↑(List.length (A0f
t)):Int)/\b.i+1=b.i+1/\(∃(n:Nat),b.i+1=(↑n:Int)/\n<=List.length (A0f t)/\List.all (List.take n (A0f t)) okP=true/\b.a++[(↑(UInt8.toNat (List.getD (List.getD
(List.drop (Int.toNat b.i) (A0f t)) 0 []) (Int.toNat 1) 0)):Int)-48]=pcA (List.take n (A0f t))/\b.k++[1+ixB [109,118,97] (↑(UInt8.toNat (List.getD (List.getD (List.drop (Int.toNat
b.i) (A0f t)) 0 []) (Int.toNat 0) 0)):Int)]=pcK (List.take n (A0f t)))/\List.length (A0f t)-Int.toNat (b.i+1)<List.length (A0f t)-Int.toNat b.i/\True))))/\(ltb b.i
(↑(List.length (A0f t)):Int)=false->List.length b.a=List.length b.a/\List.length b.k=List.length b.k/\(List.length b.a=List.length b.a/\List.length b.k=List.length b.k/\List.length
b.a<1000000000000)/\((chk b.a b.k !=0)=true->Cont.size (Cont.ints IntKind.i64 (A2b t))=0/\List.length (A2b t)=0/\List.length (A2b t)=0/\Cont.size (Cont.ints IntKind.u8 (A2f t))=0
/\List.length (A2f t)=0/\List.length (A2f t)=0/\4=A5t t/\True)/\((chk b.a b.k !=0)=false->List.length b.a=List.length b.a/\List.length b.a=List.length b.a/\List.length b.k=
List.length b.k/\List.length b.k=List.length b.k/\Cont.ints IntKind.i64 b.a=Cont.ints IntKind.i64 (A2b t)/\List.length b.a=List.length (A2b t)/\List.length b.a=List.length (A2b t)/\
Cont.ints IntKind.u8 b.k=Cont.ints IntKind.u8 (A2f t)/\List.length b.k=List.length (A2f t)/\List.length b.k=List.length (A2f t)/\0=A5t t/\True)))):=by kernel_rfl
theorem C5m (c l:Int)(ks:List Int)(t:List UInt8):fnP (ZL) G 10000 C5M (.r [] 0 (.r [] 0 (.cnd (.r [] 1 .nil) (.r [] 5 (.r [] 0 (.r [] 0 (.lp (l11 (ofA c l ks) (ofK c ks)) [] [] (fun b=>(.r [] 1 (.cnd (.r [] 513 (.r [] 0 (.cnd (.r [] 0 (.r [] 0 .nil)) (.r [] 0 (.r [] 0 .nil))))) (.r [] 14 (.r [yL 901,yL 902,yL 905,yL 906,yL 907,yL 908] 466657 (.ff (.r [] 14 (.r [] 0 (.cnd (.r [yL 1155,yL 1156,yL 1157,yL 1158,yL 1159,yL 1160,yL 1161,yL 1162,yL 1165] 122366 .nil) (.r [yL 1220,yL 1221,yL 1222,yL 1223,yL 1226] 15321 .nil))))))))))))))))) ([fV c l ks,.str t]) ([.bool true]) ([])=(
(ltb 40 (↑(List.length t):Int)=true->true=true/\True)/\(ltb 40 (↑(List.length t):Int)=false->(List.length ks=List.length ks/\okK ks)/\1=1/\c=c/\l=l/\Cont.ints IntKind.u8 ks
=Cont.ints IntKind.u8 ks/\List.length ks=List.length ks/\List.length (ofA c l ks)=List.length (ofA c l ks)/\ofA c l ks=ofA c l ks/\List.length (ofK c ks)=List.length (ofK c ks)/\ofK c ks
=ofK c ks/\1=1/\List.length (ofA c l ks)=List.length (ofA c l ks)/\List.length (ofK c ks)=List.length (ofK c ks)/\t=t/\0=0/\uL [45]=[45]/\iI 0=0/\(∃(n:Nat),0=(↑n:Int)/\
n<=List.length (ofA c l ks)/\[45]=txF (List.take n (ofA c l ks)) (List.take n (ofK c ks)))/\∀(b:L11),(∃(n:Nat),b.i=(↑n:Int)/\n<=List.length (ofA c l ks)/\b.s=txF (List.take n
(ofA c l ks)) (List.take n (ofK c ks)))->List.length (ofA c l ks)=List.length (ofA c l ks)/\(ltb b.i (↑(List.length (ofA c l ks)):Int)=true->leb 0 b.i=true/\ltb b.i (↑(List.length (ofK c
ks)):Int)=true/\List.length (ofK c ks)=List.length (ofK c ks)/\List.length (ofK c ks)=List.length (ofK c ks)/\ltn (Int.toNat b.i) (Cont.size (Cont.ints IntKind.u8 (ofK c ks)))=true/\inR
IntKind.u8 (List.getD (ofK c ks) (Int.toNat b.i) 0-1)=true/\leb 0 (List.getD (ofK c ks) (Int.toNat b.i) 0-1)=true/\ltb (List.getD (ofK c ks) (Int.toNat b.i) 0-1) 3=true/\leb 0 b.i=
true/\ltb b.i (↑(List.length (ofA c l ks)):Int)=true/\List.length (ofA c l ks)=List.length (ofA c l ks)/\List.length (ofA c l ks)=List.length (ofA c l ks)/\ltn (Int.toNat b.i) (Cont.size
(Cont.ints IntKind.i64 (ofA c l ks)))=true/\(1<=List.getD (ofA c l ks) (Int.toNat b.i) 0/\List.getD (ofA c l ks) (Int.toNat b.i) 0<=8)/\A0X (List.length (Utf8.encode (↑(UInt8.toNat (List.getD
[109,118,97] (Int.toNat (List.getD (ofK c ks) (Int.toNat b.i) 0-1)) 0)):Int)).data.toList+1) 9223372036854775807=true/\((b.i==0)=true->inR IntKind.i64 (b.i+1)=true/\1=1/\c=c
/\l=l/\Cont.ints IntKind.u8 ks=Cont.ints IntKind.u8 ks/\List.length ks=List.length ks/\List.length (ofA c l ks)=List.length (ofA c l ks)/\ofA c l ks=ofA c l ks/\List.length (ofK c ks)=
List.length (ofK c ks)/\ofK c ks=ofK c ks/\1=1/\List.length (ofA c l ks)=List.length (ofA c l ks)/\List.length (ofK c ks)=List.length (ofK c ks)/\t=t/\0=0/\(Utf8.encode
(↑(UInt8.toNat (List.getD [109,118,97] (Int.toNat (List.getD (ofK c ks) (Int.toNat b.i) 0-1)) 0)):Int)).data.toList++[UInt8.ofNat (48+Int.toNat (List.getD (ofA c l ks) (Int.toNat b.i) 0))]=
(Utf8.encode (↑(UInt8.toNat (List.getD [109,118,97] (Int.toNat (List.getD (ofK c ks) (Int.toNat b.i) 0-1)) 0)):Int)).data.toList++[UInt8.ofNat (48+Int.toNat (List.getD (ofA c l ks)
(Int.toNat b.i) 0))]/\b.i+1=b.i+1/\(∃(n:Nat),b.i+1=(↑n:Int)/\n<=List.length (ofA c l ks)/\(Utf8.encode (↑(UInt8.toNat (List.getD [109,118,97] (Int.toNat (List.getD (ofK c ks)
(Int.toNat b.i) 0-1)) 0)):Int)).data.toList++[UInt8.ofNat (48+Int.toNat (List.getD (ofA c l ks) (Int.toNat b.i) 0))]=txF (List.take n (ofA c l ks)) (List.take n (ofK c ks)))/\List.length
(ofA c l ks)-Int.toNat (b.i+1)<List.length (ofA c l ks)-Int.toNat b.i/\True)/\((b.i==0)=false->A0X (List.length b.s+1) 9223372036854775807=true/\A0X (List.length (b.s++[32])+
List.length ((Utf8.encode (↑(UInt8.toNat (List.getD [109,118,97] (Int.toNat (List.getD (ofK c ks) (Int.toNat b.i) 0-1)) 0)):Int)).data.toList++[UInt8.ofNat (48+Int.toNat (List.getD (ofA c l
ks) (Int.toNat b.i) 0))])) 9223372036854775807=true/\inR IntKind.i64 (b.i+1)=true/\1=1/\c=c/\l=l/\Cont.ints IntKind.u8 ks=Cont.ints IntKind.u8 ks/\List.length ks=List.length ks/\
List.length (ofA c l ks)=List.length (ofA c l ks)/\ofA c l ks=ofA c l ks/\List.length (ofK c ks)=List.length (ofK c ks)/\ofK c ks=ofK c ks/\1=1/\List.length (ofA c l ks)=List.length
(ofA c l ks)/\List.length (ofK c ks)=List.length (ofK c ks)/\t=t/\0=0/\b.s++[32]++((Utf8.encode (↑(UInt8.toNat (List.getD [109,118,97] (Int.toNat (List.getD (ofK c ks) (Int.toNat b.i)
0-1)) 0)):Int)).data.toList++[UInt8.ofNat (48+Int.toNat (List.getD (ofA c l ks) (Int.toNat b.i) 0))])=b.s++[32]++((Utf8.encode (↑(UInt8.toNat (List.getD [109,118,97] (Int.toNat
(List.getD (ofK c ks) (Int.toNat b.i) 0-1)) 0)):Int)).data.toList++[UInt8.ofNat (48+Int.toNat (List.getD (ofA c l ks) (Int.toNat b.i) 0))])/\b.i+1=b.i+1/\(∃(n:Nat),b.i+1=(↑n:
Int)/\n<=List.length (ofA c l ks)/\b.s++[32]++((Utf8.encode (↑(UInt8.toNat (List.getD [109,118,97] (Int.toNat (List.getD (ofK c ks) (Int.toNat b.i) 0-1)) 0)):Int)).data.toList++
[UInt8.ofNat (48+Int.toNat (List.getD (ofA c l ks) (Int.toNat b.i) 0))])=txF (List.take n (ofA c l ks)) (List.take n (ofK c ks)))/\List.length (ofA c l ks)-Int.toNat (b.i+1)<List.length
(ofA c l ks)-Int.toNat b.i/\True))/\(ltb b.i (↑(List.length (ofA c l ks)):Int)=false->List.length b.s<1000000/\List.length (ofA c l ks)=List.length (ofA c l ks)/\List.length (ofK c ks)
=List.length (ofK c ks)/\(List.length (ofA c l ks)=List.length (ofA c l ks)/\List.length (ofK c ks)=List.length (ofK c ks)/\chk (ofA c l ks) (ofK c ks)=0)/\(!!txF (ofA c l ks) (ofK c ks)==
b.s)=true/\(!A5t b.s !=0)=true/\List.length (ofA c l ks)=List.length (ofA c l ks)/\List.length (ofK c ks)=List.length (ofK c ks)/\(List.length (A2b b.s)=List.length (A2b b.s)/\
List.length (A2f b.s)=List.length (A2f b.s)/\List.length (ofA c l ks)=List.length (ofA c l ks)/\List.length (ofK c ks)=List.length (ofK c ks)/\List.length (A2b b.s)=List.length (A2b
b.s)/\List.length (A2f b.s)=List.length (A2f b.s)/\List.length (A2b b.s)=List.length (ofA c l ks)/\List.length (A2f b.s)=List.length (ofK c ks)/\List.length (A2b b.s)<1000000000000/\
List.length (A2f b.s)<1000000000000)/\(!(eqB (A2b b.s) (ofA c l ks)&&eqB (A2f b.s) (ofK c ks)))=false/\List.length t<1000000/\((A5t t !=0)=true->(A5t t==4)=true/\inR
IntKind.i64 ((↑(List.length (A2b t)):Int)+(↑(List.length (A2f t)):Int))=true/\((↑(List.length (A2b t)):Int)+(↑(List.length (A2f t)):Int)==0)=true/\true=true/\True)/\((A5t
t !=0)=false->(List.length (A2b t)=List.length (A2b t)/\List.length (A2f t)=List.length (A2f t)/\List.length (A2b t)<1000000000000)/\(chk (A2b t) (A2f t)==0)=true/\
(List.length (A2b t)=List.length (A2b t)/\List.length (A2f t)=List.length (A2f t)/\chk (A2b t) (A2f t)=0)/\(txF (A2b t) (A2f t)==t)=true/\true=true/\True)))):=by kernel_rfl
set_option linter.unusedSimpArgs false
theorem B0G {f:Nat}{args:List AV}{v:AV}{nat:Nat->List AV->Option AV}(hn:A6p Tryz.prog nat)(h:nat f args=some v):SpecP Tryz.prog G f args v []:=by
 intro F w vs hm hv;obtain⟨y,h1,h2⟩:=hn f args v h F noR noH w vs hv.toVs;have e:hsH []=noH:=by funext i;simp[hsH,noH]
 rw[e];exact .inl ⟨_,y,w,h1,.inl rfl,F,noR,hm,Ext.refl _ _ _,h2⟩
theorem C1p (s:List UInt8)(b:Int):SpecP Tryz.prog G 136 [.str s,.int .u8 b] (.int .i64 (ixB s b)) []:=B0G A1W rfl
theorem C1q (s:List UInt8)(b:Int):SpecP Tryz.prog G 147 [.str s,.int .u8 b] (.int .i64 (ctB s b)) []:=B0G A1W rfl
theorem C1r {f:Nat}(h:∀s b,SpecP Tryz.prog G f [.str s,.int .u8 b] (.int .i64 (ixB s b)) []):A06 Tryz.prog G f B7G:=by
 intro args r hr hp;unfold B7G at hr;split at hr<;>cases hr;exact h _ _
theorem C9Q {f:Nat}(h:∀s b,SpecP Tryz.prog G f [.str s,.int .u8 b] (.int .i64 (ctB s b)) []):A06 Tryz.prog G f C75:=by
 intro args r hr hp;unfold C75 at hr;split at hr<;>cases hr;exact h _ _
theorem D4S:TabOk Tryz.prog G XA:=A0m A0s ⟨C1r C1p,C9Q C1q,trivial⟩
theorem D2L (s:List UInt8)(b:Int):SpecP Tryz.prog G 112 [.str s,.int .u8 b] (.int .i64 (ixB s b)) []:=by
 refine A0d hcm hmx D4S C2D rfl (C4W s b) ?_;simp
theorem C9R:TabOk Tryz.prog G (A1V ((112,B7G)::xA) A2z):=A0m A0s ⟨C1r D2L,C1r C1p,C9Q C1q,trivial⟩
theorem D2M (s:List UInt8)(b:Int):SpecP Tryz.prog G 73 [.str s,.int .u8 b] (.int .i64 (ixB s b)) []:=by
 refine A0d hcm hmx C9R D1S rfl (C4X s b) ?_;simp
theorem D2N:A1Z Tryz.prog G xB:=⟨C1r D2L,C1r D2M,C1r C1p,C9Q C1q,trivial⟩
theorem D2O:TabOk Tryz.prog G XB:=A0m A0s D2N
theorem B6n (b c:UInt8):Nat.beq b.toNat c.toNat=(b==c):=by
 cases h:(b==c)with
 |true=>rw[beq_iff_eq]at h;subst h;simp
 |false=>
  have:b.toNat≠c.toNat:=fun e=>by
   rw[beq_eq_false_iff_ne]at h;exact h (UInt8.toNat_inj.1 e)
  exact Bool.eq_false_iff.2 fun e=>this (Nat.eq_of_beq_eq_true e)
theorem B0H:∀(s:List UInt8) (i:Int),0<=i->(A27 s 32 i= -1/\A0f s=[s]/\32∉s)\/∃m:Nat,A27 s 32 i=i+m/\m<s.length/\A0f s=s.take m::A0f (s.drop (m+1))
 |[],i,h=>.inl ⟨rfl,rfl,by simp⟩
 |c::s,i,h=>by
  have hb:=B6n c 32;rw[A27,hb];cases hc:(c==32)with
  |true=>
   refine .inr ⟨0,by simp,by simp,?_⟩;simp[A0f,hc]
  |false=>
   have hc2:c≠32:=beq_eq_false_iff_ne.1 hc;simp only[cond_false];rcases B0H s (i+1) (by omega)with⟨h1,h2,h3⟩|⟨m,h1,h2,h3⟩
   ·refine .inl ⟨h1,?_,?_⟩
    ·simp[A0f,hc,h2,B5D]
    ·simp only[List.mem_cons,not_or];exact⟨fun h=>hc2 h.symm,h3⟩
   ·refine .inr ⟨m+1,by rw[h1];omega,by simp;omega,?_⟩;simp[A0f,hc,h3,B5D]
theorem B8o (s:List UInt8):(ixB s 32= -1/\A0f s=[s])\/∃m:Nat,ixB s 32=m/\m<s.length/\A0f s=s.take m::A0f (s.drop (m+1)):=by
 rcases B0H s 0 (by omega)with⟨h1,h2,h3⟩|⟨m,h1,h2,h3⟩
 ·exact .inl ⟨h1,h2⟩
 ·exact .inr ⟨m,by rw[Int.zero_add]at h1;exact h1,h2,h3⟩
theorem B0I (c:UInt8)(l:List (List UInt8))(h:1<=l.length):(B5D c l).length=l.length:=by
 cases l with
 |nil=>simp at h
 |cons x r=>rfl
theorem A2P:∀(s:List UInt8),1<=(A0f s).length/\(A0f s).length<=s.length+1
 |[]=>by simp[A0f]
 |c::s=>by
  obtain⟨h1,h2⟩:=A2P s;rw[A0f,cond_eq_ite];split
  ·simp;omega
  ·rw[B0I c _ h1];simp;omega
theorem A6J:∀(s:List UInt8) (n:Int),B6v s 32 n+1=n+(A0f s).length
 |[],n=>by simp[B6v,A0f]
 |c::s,n=>by
  have hb:=B6n c 32;have h1:=A6J s (n+1);have h2:=A6J s n;have h3:=(A2P s).1;rw[B6v,hb,A0f];cases hc:(c==32)with
  |true=>simp;omega
  |false=>simp only[cond_false];rw[B0I c _ h3];exact h2
theorem B8p (s:List UInt8):ctB s 32+1=(A0f s).length:=by
 have:=A6J s 0;rw[Int.zero_add]at this;exact this
theorem C9S (s:List UInt8):SpecP Tryz.prog G 148 [.str s,.str [32]] (.int .i64 (ixB s 32)) []:=by
 refine A0d hcm hmx D2O C3h rfl (C1b s) ?_;have h:∀s:List UInt8,([32]==s)=true->0=ixB s 32:=fun s h=>by
  rw[<- beq_iff_eq.1 h];rfl
 simp only[and_true,true_and,implies_true];exact h s
theorem C9T (s:List UInt8):SpecP Tryz.prog G 134 [.str s,.str [32]] (.int .i64 (ctB s 32)) []:=by
 refine A0d hcm hmx D2O C25 rfl (C1d s) ?_;simp
theorem C9U:A06 Tryz.prog G 148 C1L:=by
 intro args r hr hp;unfold C1L at hr;split at hr<;>cases hr;obtain⟨rfl,hz⟩:=hp;exact C9S _
theorem C9V:A06 Tryz.prog G 134 C76:=by
 intro args r hr hp;unfold C76 at hr;split at hr<;>cases hr;obtain⟨rfl,hz⟩:=hp;exact C9T _
theorem D2P:A1Z Tryz.prog G xC:=⟨C9U,C9V,D2N⟩
theorem D4T:TabOk Tryz.prog G XC':=A0m A0s D2P
theorem C9W (s:List UInt8)(h:s.length<1000000000):SpecP Tryz.prog G 135 [.str s,.str [32]] (.int .i64 (ixB s 32)) []:=by
 refine A0d hcm hmx D4T C27 rfl (C1c s) ?_;simp[h]
theorem C9X:A06 Tryz.prog G 135 C1L:=by
 intro args r hr hp;unfold C1L at hr;split at hr<;>cases hr;obtain⟨rfl,hz⟩:=hp;exact C9W _ hz
theorem D2Q:A1Z Tryz.prog G xD:=⟨C9X,D2P⟩
theorem D4U:TabOk Tryz.prog G XD:=A0m A0s D2Q
theorem D4V (s:List UInt8)(h:s.length<1000000):SpecP Tryz.prog G 111 [.str s,.str [32],.int .i64 0,.int .i64 (-1)] (.imm (.strs (A0f s)) (A0f s).length none) []:=by
 refine A0d hcm hmx D4U C2B rfl (C4Y s) ?_;obtain⟨p1,p2⟩:=A2P s;have hc:=B8p s;have hN:(if(s.length:Int)+1<ctB s 32+1 then(s.length:Int)+1 else ctB s 32+1)=((A0f s).length:Int):=by
  rw[if_neg (by omega),hc]
 rw[hN,hc];generalize hL:A0f s=L at*;simp only[A0n,A0K,A0H,A09,A0Q,A1x,A0E,A03,A0w,Cont.size,Nat.zero_add,Nat.add_zero,Nat.mul_one,Int.toNat_natCast,and_true,true_and,List.length_drop,List.length_take,List.length_set,List.length_replicate,implies_true,iI,uL,Int.natCast_inj]
 repeat refine⟨by omega,?_⟩
 refine⟨⟨0,rfl,by omega,by simp,by omega⟩,?_⟩;rintro⟨i,t,l⟩ ⟨n,rfl,h1,h2,h3,h4⟩;simp only at h1 h2 h3 h4 ⊢;have key:A0f t=L.drop n:=by
  rw[<- h3,List.drop_left' (by simp;omega)]
 have kl:=congrArg List.length key;rw[List.length_drop]at kl;have e1:((n:Int)+1).toNat=n+1:=by omega
 simp only[Int.toNat_natCast,e1];have ts:∀x:List UInt8,(l.set n x).take (n+1)=l.take n++[x]:=fun x=>by
  rw[List.take_add_one,List.getElem?_set_self (by omega),List.take_set_of_le (Nat.le_refl _)];rfl
 rcases B8o t with⟨g1,g2⟩|⟨m,g1,g2,g3⟩
 ·have kl2:1=L.length-n:=by rw[<- kl,g2];rfl
  refine⟨fun hlt=>by omega,fun hge=>?_⟩;rw[ts,<- g2,h3]
  repeat refine⟨by omega,?_⟩
  first|rfl|exact⟨rfl,by omega⟩
 ·have kl2:1+(A0f (t.drop (m+1))).length=L.length-n:=by rw[<- kl,g3];simp;omega
  have kp:=(A2P (t.drop (m+1))).1;refine⟨fun hlt=>⟨by omega,fun hx=>by omega,fun hx=>?_⟩,fun hge=>by omega⟩;have e2:((m:Int)+0).toNat=m:=by omega
  have e3:((m:Int)+1).toNat=m+1:=by omega
  rw[g1,e2,e3]
  repeat refine⟨by omega,?_⟩
  refine⟨⟨n+1,by omega,by omega,by omega,?_,by omega⟩,by omega⟩;rw[ts,List.append_assoc,List.singleton_append,<- g3,h3]
theorem D4W:A06 Tryz.prog G 111 B5E:=by
 intro args r hr hp;unfold B5E at hr;split at hr
 ·rw[cond_eq_ite]at hr;split at hr
  ·rename_i hm;cases hr;obtain⟨rfl,hz⟩:=hp;rw[beq_iff_eq]at hm;subst hm;exact D4V _ hz
  ·cases hr
 ·cases hr
theorem D4X:TabOk Tryz.prog G XE:=A0m A0s ⟨D4W,D2Q⟩
theorem D4Y (s:List UInt8)(h:s.length<1000000):SpecP Tryz.prog G 72 [.str s,.str [32]] (.imm (.strs (A0f s)) (A0f s).length none) []:=by
 refine A0d hcm hmx D4X D1Q rfl (C4Z s) ?_;simp[h]
theorem D4Z:A06 Tryz.prog G 72 e59:=by
 intro args r hr hp;unfold e59 at hr;split at hr<;>cases hr;obtain⟨rfl,hz⟩:=hp;exact D4Y _ hz
theorem D40:A06 Tryz.prog G 73 B7G:=C1r D2M
theorem D41:TabOk Tryz.prog G YA:=A0m A0s ⟨D40,D4Z,C1R,D2v,C6t,trivial⟩
theorem B28 (c:UInt8):∀(l:List UInt8) (i:Int),0<=i-> -1<=A27 l c i/\A27 l c i<i+l.length
 |[],i,h=>by simp[A27];omega
 |b::l,i,h=>by
  have:=B28 c l (i+1) (by omega);rw[A27,cond_eq_ite];split
  ·simp;omega
  ·simp;omega
theorem C1s (p:List UInt8):0<=B0Q p/\B0Q p<=3:=by
 have:=B28 (((p.getD 0 0).toNat:Int).toNat.toUInt8) [109,118,97] 0 (by omega);unfold B0Q ixB;simp at this ⊢;omega
theorem A7J {t:List UInt8}(h:okT t=false):A2b t=[]/\A2f t=[]:=by
 unfold A2b A2f;rw[h];exact⟨rfl,rfl⟩
theorem A87 {t:List UInt8}(h:okT t=true):A2b t=pcA (A0f t)/\A2f t=pcK (A0f t)/\A5t t=0:=by
 unfold A2b A2f A5t;rw[h];exact⟨rfl,rfl,rfl⟩
theorem A88 {t:List UInt8}(h:okT t=false)(h2:(t==[45])=false):A5t t=4:=by
 unfold A5t;rw[h,h2];rfl
theorem D42 (t:List UInt8)(ht:t.length<1000000):SpecP Tryz.prog G 48 [.str t] (.tup [C9P (A2b t) (A2f t),.int .i64 (A5t t)]) []:=by
 refine A0d hcm hmx D41 D1f rfl (C5l t) ?_;obtain⟨p1,p2⟩:=A2P t;simp only[A0n,A0K,A0H,A09,A0Q,A1x,A0E,A03,A0w,A1t,A0F,Cont.size,A0G,List.getElem?_drop,beq_iff_eq,beq_eq_false_iff_ne,bne_iff_ne,bne_eq_false_iff_eq,ne_eq,Nat.zero_add,Nat.add_zero,Nat.mul_one,Int.toNat_natCast,and_true,true_and,List.length_drop,List.length_append,List.length_cons,List.length_nil,List.length_set,List.getD_eq_getElem?_getD,implies_true,iI,iL,Int.natCast_inj];refine⟨fun h=>?_,fun h=>⟨ht,⟨0,rfl,by omega,rfl,rfl,rfl⟩,?_⟩⟩
 ·have ho:okT t=false:=by rw[h];rfl
  obtain⟨e1,e2⟩:=A7J ho;rw[e1,e2];refine⟨rfl,rfl,rfl,rfl,rfl,rfl,?_⟩;rw[h];rfl
 ·have h45:(t==[45])=false:=beq_eq_false_iff_ne.2 h;rintro⟨i,a,k⟩ ⟨n,rfl,hn,hok,rfl,rfl⟩;simp only[Int.toNat_natCast];refine⟨fun hlt=>?_,fun hge=>?_⟩
  ·have hnl:n<(A0f t).length:=by omega
   have eg:(A0f t)[n]? =some (A0f t)[n]:=List.getElem?_eq_getElem hnl;have hm:(A0f t)[n]∈A0f t:=List.getElem_mem hnl;have tk:(A0f t).take (n+1)=(A0f t).take n++[(A0f t)[n]]:=by
    rw[List.take_add_one,eg];rfl
   rw[eg];generalize (A0f t)[n]=p at*;have bad:okP p=false->A2b t=[]/\A2f t=[]/\4=A5t t:=fun hb=>by
    have ho:okT t=false:=by
     unfold okT;have:(A0f t).all okP=false:=by
      rw[List.all_eq_false];exact⟨p,hm,by rw[hb];simp⟩
     rw[this];simp
    exact⟨(A7J ho).1,(A7J ho).2,(A88 ho h45).symm⟩
   simp only[Option.getD_some];have badg:okP p=false->(A2b t).length=0/\(A2b t).length=0/\(A2b t).length=0/\(A2f t).length=0/\(A2f t).length=0/\(A2f t).length=0/\4=A5t t:=fun hb=>by
    obtain⟨e1,e2,e3⟩:=bad hb;rw[e1,e2];exact⟨rfl,rfl,rfl,rfl,rfl,rfl,e3⟩
   have kr:=C1s p;have ea:((p[Int.toNat 1]?.getD 0).toNat:Int)-48=B8n p:=by
    unfold B8n;rw[List.getD_eq_getElem?_getD];rfl
   have ek:1+ixB [109,118,97] ((p[Int.toNat 0]?.getD 0).toNat:Int)=B0Q p:=by
    unfold B0Q;rw[List.getD_eq_getElem?_getD];rfl
   have eo:okP p=decide (p.length=2/\49<=(p[Int.toNat 1]?.getD 0).toNat/\(p[Int.toNat 1]?.getD 0).toNat<=56):=by
    unfold okP;rw[List.getD_eq_getElem?_getD,Bool.eq_iff_iff];simp
   have la:(pcA ((A0f t).take n)).length=n:=by unfold pcA;rw[List.length_map,List.length_take];omega
   have lk:(pcK ((A0f t).take n)).length=n:=by unfold pcK;rw[List.length_map,List.length_take];omega
   rw[ek,la,lk];have eb:∀h:¬ (p.length=2/\49<=(p[Int.toNat 1]?.getD 0).toNat/\(p[Int.toNat 1]?.getD 0).toNat<=56),okP p=false:=fun h=>by
    rw[eo,decide_eq_false_iff_not];exact h
   refine⟨by omega,by omega,by omega,by omega,fun hl=>badg (eb (by omega)),fun hl=>⟨by omega,fun h1=>badg (eb (by omega)),fun h1=>⟨by omega,fun h2=>badg (eb (by omega)),fun h2=>?_⟩⟩⟩;have hp:okP p=true:=by
    rw[eo,decide_eq_true_eq];omega
   refine⟨by omega,by omega,by omega,by omega,by omega,by omega,by omega,by omega,by omega,⟨n+1,by omega,by omega,?_,?_,?_⟩,by omega⟩
   ·rw[tk,List.all_append,hok];simp[hp]
   ·rw[tk,ea];unfold pcA;rw[List.map_append];rfl
   ·rw[tk];unfold pcK;rw[List.map_append];rfl
  ·have e:n=(A0f t).length:=by omega
   subst e;rw[List.take_length]at hok ⊢;have la:(pcA (A0f t)).length=(A0f t).length:=by unfold pcA;rw[List.length_map]
   refine⟨by omega,fun hc=>?_,fun hc=>?_⟩
   ·have ho:okT t=false:=by
     unfold okT;rw[beq_eq_false_iff_ne.2 hc];simp
    obtain⟨e1,e2⟩:=A7J ho;rw[e1,e2];exact⟨rfl,rfl,rfl,rfl,rfl,rfl,(A88 ho h45).symm⟩
   ·have ho:okT t=true:=by
     unfold okT;rw[h45,hok,hc];rfl
    obtain⟨e1,e2,e3⟩:=A87 ho;rw[e1,e2,e3];exact⟨rfl,rfl,rfl,rfl,rfl,rfl,rfl⟩
theorem D43:A06 Tryz.prog G 48 e35:=by
 intro args r hr hp;unfold e35 at hr;split at hr<;>cases hr;exact D42 _ hp
end Go.Proofs.YtfafinkgmhkdmaaGreatDoor.X
