/-
 What is to be shown of the functions (made by a program).
-/
import Derived.Test.YtfpcbimohikhmaaDoorQYD7Z
import Derived.KernelRfl
set_option maxRecDepth 1000000
set_option linter.unusedVariables false
namespace Go.Proofs.YtfpcbimohikhmaaDoor.X
open Go Go.Ab
open List IntKind

theorem ob_o11 (W H f:Int)(ks:List Int):fnP (T11) G 10000 fe11 (.r [] 0 (.r [] 5 (.r [] 1 (.r [] 25 (.r [yL 323,yL 324,yL 325,yL 326,yL 327,yL 328] 475 (.ff (.r [] 0 (.r [] 0 (.lp (l11 (facL (dim W) (dim H) (ofL W H ks))) [] [] (fun b=>(.r [] 0 (.cnd (.r [] 25 (.r [] 0 (.r [] 0 (.gho 13 9001 1 (Cont.ints i64 []) (.lp (m11 (facL (dim W) (dim H) (ofL W H ks)) b.fst) [] [] (fun b_1=>(.r [] 0 (.cnd (.r [] 0 (.cnd (.r [] 4 (.r [] 0 .nil)) (.r [] 0 .nil))) (.r [yL 1155,yL 1156,yL 1157,yL 1158,yL 1159,(1160,.onl,Dr.pk true),yL 1161,yL 1162,yL 1165,yL 1166,yL 1167,yL 1168,yL 1169,yL 1170,yL 1171] 31750768502 (.ff (.r [] 0 (.r [] 0 .nil)))))))))))) (.r [] 25 (.r [] 25 (.r [yM 1475,yM 1476,yM 1477,yM 1478] 16 (.cnd (.r [yM 1539,yM 1540,yM 1543,yM 1544,yM 1545,yM 1548] 162 (.ff (.r [yL 1669] 28 .nil))) (.r [yL 1669] 28 .nil))))))))))))))))) ([patP W H ks,.int .i64 f]) ([.bool true]) ([])=(
 (fun(zz6:Bool)=>(fun(zz4:Bool)=>(fun(zz3:Nat)=>(fun(zz1:Nat)=>(fun(zz0:Bool)=>(0≤W∧W≤255∧0≤H∧H≤255∧qx (length ks) (u8s ks))∧qx zz1 ((s5 (dim W)
 (dim H)∧okV (dim W) (dim H) (flatC (ofL W H ks)) zz1)∧qx zz1 ((s5 (dim W) (dim H)∧okV (dim W) (dim H) (flatC (ofL W H ks)) zz1)∧qx (kF (facL (dim W) (dim H) (unC (flatC (ofL W H
 ks))))) (qx (kF (facL (dim W) (dim H) (unC (flatC (ofL W H ks))))) (((↑(kF (facL (dim W) (dim H) (unC (flatC (ofL W H ks))))):Int) !=(↑(kF (facL (dim W) (dim H) (unC (flatC (ofL W H
 ks))))):Int))=false∧1=1∧W=W∧H=H∧qs u8 ks (qx zz1 (qx (flatC (ofL W H ks)) (1=1∧dim W=dim W∧dim H=dim H∧qx zz1 (qx (nC (dim W) (dim H)) (qx (nC (dim W) (dim H))
 (qx (facL (dim W) (dim H) (unC (flatC (ofL W H ks)))) (qx (kF (facL (dim W) (dim H) (unC (flatC (ofL W H ks))))) (qx (kF (facL (dim W) (dim H) (unC (flatC (ofL W H ks))))) (qx (szL (facL
 (dim W) (dim H) (unC (flatC (ofL W H ks)))) (kF (facL (dim W) (dim H) (unC (flatC (ofL W H ks)))))) (f=f∧0=0∧qx (nC (dim W) (dim H)) (qx (kF (facL (dim W) (dim H) (unC (flatC (ofL W
 H ks))))) (iI 0=0∧iI 0=0∧(∃(n:Nat),0=(↑n:Int)∧n≤kF (facL (dim W) (dim H) (ofL W H ks))∧0=(↑(befL (facL (dim W) (dim H) (ofL W H ks)) (↑n:Int)):Int))∧∀(b:Int
 ×Int),(fun(zz2:Nat)=>(∃(n:Nat),b.fst=(↑n:Int)∧n≤kF (facL (dim W) (dim H) (ofL W H ks))∧b.snd=(↑(befL (facL (dim W) (dim H) (ofL W H ks)) (↑n:Int)):Int))→qx (kF
 (facL (dim W) (dim H) (unC (flatC (ofL W H ks))))) ((ltb b.fst (↑(kF (facL (dim W) (dim H) (unC (flatC (ofL W H ks))))):Int)=true→qx zz1 ((s5 (dim W) (dim H)∧okV (dim W) (dim H)
 (flatC (ofL W H ks)) zz1)∧1=1∧W=W∧H=H∧qs u8 ks (qx zz1 (qx (flatC (ofL W H ks)) (1=1∧dim W=dim W∧dim H=dim H∧qx zz1 (qx (nC (dim W) (dim H)) (qx (nC (dim W) (dim
 H)) (qx (facL (dim W) (dim H) (unC (flatC (ofL W H ks)))) (qx (kF (facL (dim W) (dim H) (unC (flatC (ofL W H ks))))) (qx (kF (facL (dim W) (dim H) (unC (flatC (ofL W H ks))))) (qx (szL (facL
 (dim W) (dim H) (unC (flatC (ofL W H ks)))) (kF (facL (dim W) (dim H) (unC (flatC (ofL W H ks)))))) (0=0∧iL []=[]∧f=f∧0=0∧qx (nC (dim W) (dim H)) (qx (kF (facL (dim W) (dim
 H) (unC (flatC (ofL W H ks))))) (b.snd=b.snd∧b.fst=b.fst∧qs i64 (celL (facL (dim W) (dim H) (unC (flatC (ofL W H ks)))) b.fst) (qx zz2 (qx (bI (emB (facL (dim W) (dim H) (unC (flatC
 (ofL W H ks)))) b.fst) 7 0) (0=0∧iI 0=0∧(∃(k:Nat),0=(↑k:Int)∧k≤length (facL (dim W) (dim H) (ofL W H ks))∧[]=celP (facL (dim W) (dim H) (ofL W H ks)) b.fst k∧0=
 length (celP (facL (dim W) (dim H) (ofL W H ks)) b.fst k))∧∀(b_1:LI6),(fun(zz5:Bool)=>(∃(k:Nat),b_1.i=(↑k:Int)∧k≤length (facL (dim W) (dim H) (ofL W H ks))∧b_1.l=
 celP (facL (dim W) (dim H) (ofL W H ks)) b.fst k∧b_1.n=length (celP (facL (dim W) (dim H) (ofL W H ks)) b.fst k))→qx (nC (dim W) (dim H)) ((ltb b_1.i (↑(nC (dim W) (dim H)):Int)=
 true→leb 0 b_1.i=true∧ltb b_1.i (↑(nC (dim W) (dim H)):Int)=true∧qx (nC (dim W) (dim H)) (qx (nC (dim W) (dim H)) (ltn (Int.toNat b_1.i) (Cont.size (Cont.ints i64 (facL (dim W)
 (dim H) (unC (flatC (ofL W H ks))))))=true∧(zz5=true→b_1.n=b_1.n∧len' ((b_1.n+1)*8) 140737488355328=true∧inR i64 (b_1.i+1)=true∧1=1∧W=W∧H=H∧qs u8 ks (qx
 zz1 (qx (flatC (ofL W H ks)) (1=1∧dim W=dim W∧dim H=dim H∧qx zz1 (qx (nC (dim W) (dim H)) (qx (nC (dim W) (dim H)) (qx (facL (dim W) (dim H) (unC (flatC (ofL W H ks)))) (qx (kF
 (facL (dim W) (dim H) (unC (flatC (ofL W H ks))))) (qx (kF (facL (dim W) (dim H) (unC (flatC (ofL W H ks))))) (qx (szL (facL (dim W) (dim H) (unC (flatC (ofL W H ks)))) (kF (facL (dim W)
 (dim H) (unC (flatC (ofL W H ks)))))) (qx (b_1.n+1) (b_1.l++[b_1.i]=b_1.l++[b_1.i]∧f=f∧0=0∧qx (nC (dim W) (dim H)) (qx (kF (facL (dim W) (dim H) (unC (flatC (ofL W H
 ks))))) (b.snd=b.snd∧b.fst=b.fst∧qs i64 (celL (facL (dim W) (dim H) (unC (flatC (ofL W H ks)))) b.fst) (qx zz2 (qx (bI (emB (facL (dim W) (dim H) (unC (flatC (ofL W H ks)))) b.fst) 7
 0) (qx (b_1.n+1) (qx (b_1.i+1) ((∃(k:Nat),b_1.i+1=(↑k:Int)∧k≤length (facL (dim W) (dim H) (ofL W H ks))∧b_1.l++[b_1.i]=celP (facL (dim W) (dim H) (ofL W H ks)) b.fst
 k∧b_1.n+1=length (celP (facL (dim W) (dim H) (ofL W H ks)) b.fst k))∧length (facL (dim W) (dim H) (ofL W H ks))-Int.toNat (b_1.i+1)<length (facL (dim W) (dim H) (ofL W H ks))-
 Int.toNat b_1.i∧True)))))))))))))))))))∧(zz5=false→inR i64 (b_1.i+1)=true∧1=1∧W=W∧H=H∧qs u8 ks (qx zz1 (qx (flatC (ofL W H ks)) (1=1∧dim W=dim W∧dim H=dim
 H∧qx zz1 (qx (nC (dim W) (dim H)) (qx (nC (dim W) (dim H)) (qx (facL (dim W) (dim H) (unC (flatC (ofL W H ks)))) (qx (kF (facL (dim W) (dim H) (unC (flatC (ofL W H ks))))) (qx (kF (facL
 (dim W) (dim H) (unC (flatC (ofL W H ks))))) (qx (szL (facL (dim W) (dim H) (unC (flatC (ofL W H ks)))) (kF (facL (dim W) (dim H) (unC (flatC (ofL W H ks)))))) (b_1.n=b_1.n∧b_1.l=b_1.l
 ∧f=f∧0=0∧qx (nC (dim W) (dim H)) (qx (kF (facL (dim W) (dim H) (unC (flatC (ofL W H ks))))) (b.snd=b.snd∧b.fst=b.fst∧qs i64 (celL (facL (dim W) (dim H) (unC (flatC (ofL W H
 ks)))) b.fst) (qx zz2 (qx (bI (emB (facL (dim W) (dim H) (unC (flatC (ofL W H ks)))) b.fst) 7 0) (b_1.n=b_1.n∧qx (b_1.i+1) ((∃(k:Nat),b_1.i+1=(↑k:Int)∧k≤length (facL (dim
 W) (dim H) (ofL W H ks))∧b_1.l=celP (facL (dim W) (dim H) (ofL W H ks)) b.fst k∧b_1.n=length (celP (facL (dim W) (dim H) (ofL W H ks)) b.fst k))∧length (facL (dim W) (dim H) (ofL W
 H ks))-Int.toNat (b_1.i+1)<length (facL (dim W) (dim H) (ofL W H ks))-Int.toNat b_1.i∧True))))))))))))))))))))∧(ltb b_1.i (↑(nC (dim W) (dim H)):Int)=false→(!bI (emB (facL
 (dim W) (dim H) (unC (flatC (ofL W H ks)))) b.fst) 7 0 !=0)=true∧b_1.n=b_1.n∧leb ((↑b_1.n:Int)*8) 140737488355328=true∧len' ((0+b_1.n)*8) 140737488355328=true∧len'
 (0+b_1.n) (Int.toNat (↑b_1.n:Int))=true∧b_1.n=b_1.n∧qx (0+b_1.n) ((celL (facL (dim W) (dim H) (unC (flatC (ofL W H ks)))) b.fst=[]++b_1.l∧qx zz2 (0+b_1.n=length (celL
 (facL (dim W) (dim H) (unC (flatC (ofL W H ks)))) b.fst)∧qx zz2 (length (celL (facL (dim W) (dim H) (unC (flatC (ofL W H ks)))) b.fst)<1000000000)))∧leb 0 b.fst=true∧ltb b.fst
 (↑(kF (facL (dim W) (dim H) (unC (flatC (ofL W H ks))))):Int)=true∧qx (kF (facL (dim W) (dim H) (unC (flatC (ofL W H ks))))) (qx (kF (facL (dim W) (dim H) (unC (flatC (ofL W H ks)))))
 (ltn (Int.toNat b.fst) (Cont.size (Cont.ints i64 (szL (facL (dim W) (dim H) (unC (flatC (ofL W H ks)))) (kF (facL (dim W) (dim H) (unC (flatC (ofL W H ks))))))))=true∧b_1.n=b_1.n∧
 (getD (szL (facL (dim W) (dim H) (unC (flatC (ofL W H ks)))) (kF (facL (dim W) (dim H) (unC (flatC (ofL W H ks)))))) (Int.toNat b.fst) 0 !=(↑b_1.n:Int))=false∧b_1.n=b_1.n∧inR i64
 (b.snd+(↑b_1.n:Int))=true∧inR i64 (b.fst+1)=true∧1=1∧W=W∧H=H∧qs u8 ks (qx zz1 (qx (flatC (ofL W H ks)) (1=1∧dim W=dim W∧dim H=dim H∧qx zz1 (qx (nC (dim
 W) (dim H)) (qx (nC (dim W) (dim H)) (qx (facL (dim W) (dim H) (unC (flatC (ofL W H ks)))) (qx (kF (facL (dim W) (dim H) (unC (flatC (ofL W H ks))))) (qx (kF (facL (dim W) (dim H) (unC
 (flatC (ofL W H ks))))) (qx (szL (facL (dim W) (dim H) (unC (flatC (ofL W H ks)))) (kF (facL (dim W) (dim H) (unC (flatC (ofL W H ks)))))) (f=f∧0=0∧qx (nC (dim W) (dim H)) (qx (kF
 (facL (dim W) (dim H) (unC (flatC (ofL W H ks))))) (b.snd+(↑b_1.n:Int)=(b.fst+1,b.snd+(↑b_1.n:Int)).snd∧b.fst+1=(b.fst+1,b.snd+(↑b_1.n:Int)).fst∧(∃(n:Nat),
 (b.fst+1,b.snd+(↑b_1.n:Int)).fst=(↑n:Int)∧n≤kF (facL (dim W) (dim H) (ofL W H ks))∧(b.fst+1,b.snd+(↑b_1.n:Int)).snd=(↑(befL (facL (dim W) (dim H) (ofL W H ks)) (↑n
 :Int)):Int))∧kF (facL (dim W) (dim H) (ofL W H ks))-Int.toNat (b.fst+1)<kF (facL (dim W) (dim H) (ofL W H ks))-Int.toNat b.fst∧True)))))))))))))))))) (getD (facL (dim W) (dim
 H) (unC (flatC (ofL W H ks)))) (Int.toNat b_1.i) 0==b.fst))))))))))))))))))∧(ltb b.fst (↑(kF (facL (dim W) (dim H) (unC (flatC (ofL W H ks))))):Int)=false→qx zz1 ((s5 (dim W) (dim
 H)∧okV (dim W) (dim H) (flatC (ofL W H ks)) zz1)∧qx zz1 ((s5 (dim W) (dim H)∧okV (dim W) (dim H) (flatC (ofL W H ks)) zz1)∧((!ltb f 0)=true→(!ltb f 0)=true)∧((!ltb f 0)=
 true→kF (facL (dim W) (dim H) (unC (flatC (ofL W H ks))))=kF (facL (dim W) (dim H) (unC (flatC (ofL W H ks)))))∧((!ltb f 0)=true→(!ltb f 0)=true)∧((!ltb f 0)=true→(!ltb f
 0)=true)∧(bif ltb f 0 then true else !ltb f 0&&true)=true∧(zz4=true→(zz6=true→zz6=true)∧(bif bI (emB (facL (dim W) (dim H) (unC (flatC (ofL W H ks)))) f) 7 0 !=7 then
 true else !bI (emB (facL (dim W) (dim H) (unC (flatC (ofL W H ks)))) f) 7 0 !=7&&true)=true∧(zz0=true→zz0=true)∧(zz0=true→zz0=true)∧(bif bif bI (emB (facL (dim W) (dim
 H) (unC (flatC (ofL W H ks)))) f) 7 0 !=7 then true else bI (emB (facL (dim W) (dim H) (unC (flatC (ofL W H ks)))) f) 7 0 !=7 then true else zz0&&true)=true∧(bif bif bif bI (emB
 (facL (dim W) (dim H) (unC (flatC (ofL W H ks)))) f) 7 0 !=7 then true else bI (emB (facL (dim W) (dim H) (unC (flatC (ofL W H ks)))) f) 7 0 !=7 then true else(↑zz3:Int) !=0 then true
 else(!bif bif bI (emB (facL (dim W) (dim H) (unC (flatC (ofL W H ks)))) f) 7 0 !=7 then true else bI (emB (facL (dim W) (dim H) (unC (flatC (ofL W H ks)))) f) 7 0 !=7 then true else(↑zz3
 :Int) !=0)&&true)=true∧(bif bif bif bI (emB (facL (dim W) (dim H) (unC (flatC (ofL W H ks)))) f) 7 0 !=7 then true else bI (emB (facL (dim W) (dim H) (unC (flatC (ofL W H ks)))) f)
 7 0 !=7 then true else(↑zz3:Int) !=0 then true else !emB (facL (dim W) (dim H) (unC (flatC (ofL W H ks)))) f&&cvB (dim W) (celL (facL (dim W) (dim H) (unC (flatC (ofL W H ks)))) f))=
 false∧qx (nC (dim W) (dim H)) ((b.snd==(↑(nC (dim W) (dim H)):Int))=true∧true=true∧True))∧(zz4=false→qx (nC (dim W) (dim H)) ((b.snd==(↑(nC (dim W) (dim H)):Int))=
 true∧true=true∧True))))))) (length (celL (facL (dim W) (dim H) (unC (flatC (ofL W H ks)))) b.fst))))))))))))))))))) (!bif bI (emB (facL (dim W) (dim H) (unC (flatC (ofL W H ks)))) f) 7
 0 !=7 then true else bI (emB (facL (dim W) (dim H) (unC (flatC (ofL W H ks)))) f) 7 0 !=7)) (length (ofL W H ks))) (length (celL (facL (dim W) (dim H) (unC (flatC (ofL W H ks)))) f))) (bif
 ltb f 0 then true else leb (↑(kF (facL (dim W) (dim H) (unC (flatC (ofL W H ks))))):Int) f)) (!bI (emB (facL (dim W) (dim H) (unC (flatC (ofL W H ks)))) f) 7 0 !=7)):=by kernel_rfl

end Go.Proofs.YtfpcbimohikhmaaDoor.X
