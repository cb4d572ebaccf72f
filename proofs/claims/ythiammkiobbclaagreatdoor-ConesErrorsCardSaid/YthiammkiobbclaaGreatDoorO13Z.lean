/-
 What is to be shown of the functions (made by a program).
-/
import Derived.Test.YthiammkiobbclaaGreatDoorD13Z
import Derived.KernelRfl
set_option maxRecDepth 1000000
set_option linter.unusedVariables false
namespace Go.Proofs.YthiammkiobbclaaGreatDoor.X
open Go Go.Ab
open List IntKind

theorem ob_o8 (a k o:List Int):fnP (T8) G 10000 fe8 (.r [] 0 (.jn (jP (length a≤8∧length k≤8∧length o≤10)) [] [] (.rs 5 [] 1 27 (.r [] 15 (.lit (.r [] 1 .nil))) (.rs 6 [] 7 33 (.r [] 3 (.lit (.r [] 1 .nil))) (.r [] 3 (.cnd (.r [] 1 .nil) .nil)))) (fun b=>(.r [] 1 (.r [] 0 (.jn (jI 6 i64 (ofE a k)) [] [] (.rs 3 [] 0 44 (.r [] 13 (.cnd (.r [] 0 .nil) .nil)) (.r [] 3 (.lit .nil))) (fun b_1=>(.r [] 0 (.r [] 0 (.jn (jI 7 i64 (ls8 a k o (length a))) [8] [] (.lp (l8 a k o) [] [] (fun b_2=>(.rs 6 [] 1 55 (.r [] 3 (.cnd (.r [] 0 (.r [] 0 (.lp (m8 o b_2.i) [] [] (fun b_3=>(.r [] 0 (.cnd (.r [] 0 (.cnd (.r [] 0 (.r [] 0 .nil)) (.r [] 0 .nil))) (.r [] 0 (.cnd (.r [] 0 (.r [] 0 .nil)) (.r [] 0 .nil))))))))) .nil)) (.r [] 3 (.lit .nil))))) (fun b_2=>(.jn (jI 7 i64 (lstE a k o)) [] [] (.rs 3 [] 0 79 (.r [] 7 (.cnd (.r [] 0 .nil) .nil)) (.r [] 3 (.lit .nil))) (fun b_3=>(.r [] 13 (.r [] 29 (.r [] 13 (.r [] 13 (.jn (jP True) [6,11,12,15,16,17,18] [] (.rs 17 [yL 1668,yL 1669,yL 1670,yL 1673,yL 1674,yL 1675,yL 1678,yL 1679,yL 1680] 7134 124 (.rs 2 [] 0 126 (.rs 10 [yL 1690,yL 1691,yL 1692] 447 136 (.r [] 15 (.cnd (.r [] 0 .nil) .nil)) (.r [] 15 (.lit .nil))) (.rs 10 [yL 1690,yL 1691,yL 1692] 447 136 (.r [] 15 (.cnd (.r [] 0 .nil) .nil)) (.r [] 15 (.lit .nil)))) (.rs 12 [yL 1690,yL 1691,yL 1692] 127 136 (.r [] 15 (.cnd (.r [] 0 .nil) .nil)) (.r [] 15 (.lit .nil)))) (fun b_4=>(.jn (jP True) [1,7,13,14] [] (.br (lstE a k o==0) (.r [(1795,.off,Dr.plain),(1796,.off,Dr.plain),(1797,.off,Dr.plain),(1798,.off,Dr.plain),(1799,.off,Dr.plain),(1800,.off,Dr.plain),(1801,.off,Dr.plain),(1802,.off,Dr.plain),(1803,.off,Dr.plain),(1804,.off,Dr.plain),(1805,.off,Dr.plain),(1806,.off,Dr.plain),(1807,.off,Dr.plain),(1808,.off,Dr.plain),(1809,.off,Dr.plain),(1810,.off,Dr.plain),(1811,.auto,Dr.pk false),yO 1816,yO 1817,yO 1818,yO 1819,yO 1820,yO 1821,yO 1822,(1823,.auto,Dr.pk true)] 31173474752 (.cnd (.r [] 0 .nil) .nil)) (.r [yO 1795,yO 1796,yO 1797,yO 1798,yO 1799,yO 1800,yM 1801,yM 1802,yM 1803,yO 1804,yO 1805,yM 1806,yM 1807,yM 1808,yM 1809,yO 1810,(1811,.auto,Dr.pk true),yM 1813,yM 1814,yM 1815,(1816,.off,Dr.plain),(1817,.off,Dr.plain),(1818,.off,Dr.plain),(1819,.off,Dr.plain),(1820,.off,Dr.plain),(1821,.off,Dr.plain),(1822,.off,Dr.plain),(1823,.may,Dr.pk false)] 51550652418 (.cnd (.r [] 0 .nil) .nil))) (fun b_5=>(.r [] 0 (.cnd (.r [] 13 (.r [] 13 (.r [yL 2116,yL 2121,yL 2125,yL 2130] 7606 .nil))) (.r [] 1 .nil)))))))))))))))))))))))) ([fanV a k,.imm (.ints .i64 o) o.length none]) ([.bool true]) ([])=(
 (fun(zz5:Nat)=>(fun(zz4:Nat)=>(fun(zz3:Bool)=>((ltb 8 (↑(length a):Int)=true→true=true∧True)∧(ltb 8 (↑(length a):Int)=false→(ltb 8 (↑(length k):Int)=true
 →true=true∧True)∧(ltb 8 (↑(length k):Int)=false→(ltb 10 (↑(length o):Int)=true→true=true∧True)∧(ltb 10 (↑(length o):Int)=false→1=1∧qs i64 a (qs u8 k (qs
 i64 o (0=0∧(length a≤8∧length k≤8∧length o≤10)∧True)))))))∧∀(b:Unit),length a≤8∧length k≤8∧length o≤10→(length a=length a∧length k=length k∧length a
 <1000000000000)∧(((chk a k==0)=true→(length a=length a∧length k=length k∧length a<1000000)∧((!altS a k)=true→1=1∧qs i64 a (qs u8 k (qs i64 o (0=0∧chk a k=
 chk a k∧iI 14=14∧14=ofE a k∧True))))∧((!altS a k)=false→1=1∧qs i64 a (qs u8 k (qs i64 o (0=0∧chk a k=chk a k∧chk a k=chk a k∧chk a k=ofE a k∧True)))))∧
 ((chk a k==0)=false→1=1∧qs i64 a (qs u8 k (qs i64 o (0=0∧chk a k=chk a k∧chk a k=chk a k∧chk a k=ofE a k∧True)))))∧∀(b_1:VI),b_1.v=ofE a k→(1=1∧qs i64
 a (qs u8 k (qs i64 o (0=0∧chk a k=chk a k∧b_1.v=b_1.v∧b_1.v=b_1.v∧iI 0=0∧(∃(m:Nat),0=(↑m:Int)∧m≤length a∧b_1.v=ls8 a k o m∧(ofE a k≠0→m=0))∧∀
 (b_2:L8),(∃(m:Nat),b_2.i=(↑m:Int)∧m≤length a∧b_2.w=ls8 a k o m∧(ofE a k≠0→m=0))→(ltb b_2.i (↑(length a):Int)=true→((b_1.v==0)=true→1=1∧qs i64 a
 (qs u8 k (qs i64 o (0=0∧chk a k=chk a k∧b_1.v=b_1.v∧b_2.w=b_2.w∧b_2.i=b_2.i∧b_1.v=b_1.v∧qx (b_1.v==0) (iI 0=0∧iI 0=0∧(∃(m:Nat),0=(↑m:Int)∧m≤
 length o∧0=cntO (take m o) b_2.i)∧∀(b_3:M8),(∃(m:Nat),b_3.k=(↑m:Int)∧m≤length o∧b_3.n=cntO (take m o) b_2.i)→(ltb b_3.k (↑(length o):Int)=true→rd i64 o
 b_3.k (((getD (drop (Int.toNat b_3.k) o) 0 0==b_2.i)=true→inR i64 (b_3.n+1)=true∧inR i64 (b_3.k+1)=true∧1=1∧qs i64 a (qs u8 k (qs i64 o (0=0∧chk a k=chk a k∧
 b_1.v=b_1.v∧b_2.w=b_2.w∧b_2.i=b_2.i∧b_1.v=b_1.v∧qx (b_1.v==0) (qx (b_3.n+1) (qx (b_3.k+1) ((∃(m:Nat),b_3.k+1=(↑m:Int)∧m≤length o∧b_3.n+1=cntO (take
 m o) b_2.i)∧length o-Int.toNat (b_3.k+1)<length o-Int.toNat b_3.k∧True)))))))∧((getD (drop (Int.toNat b_3.k) o) 0 0==b_2.i)=false→inR i64 (b_3.k+1)=true∧1=1∧qs
 i64 a (qs u8 k (qs i64 o (0=0∧chk a k=chk a k∧b_1.v=b_1.v∧b_2.w=b_2.w∧b_2.i=b_2.i∧b_1.v=b_1.v∧qx (b_1.v==0) (b_3.n=b_3.n∧qx (b_3.k+1) ((∃(m:Nat),b_3.k+1
 =(↑m:Int)∧m≤length o∧b_3.n=cntO (take m o) b_2.i)∧length o-Int.toNat (b_3.k+1)<length o-Int.toNat b_3.k∧True))))))))∧(ltb b_3.k (↑(length o):Int)=false→((b_3.n
 !=1)=true→inR i64 (b_2.i+1)=true∧1=1∧qs i64 a (qs u8 k (qs i64 o (0=0∧chk a k=chk a k∧b_1.v=b_1.v∧iI 1=1∧qx (b_2.i+1) ((∃(m:Nat),b_2.i+1=(↑m:Int)∧
 m≤length a∧1=ls8 a k o m∧(ofE a k≠0→m=0))∧length a-Int.toNat (b_2.i+1)<length a-Int.toNat b_2.i∧True)))))∧((b_3.n !=1)=false→inR i64 (b_2.i+1)=true∧1=
 1∧qs i64 a (qs u8 k (qs i64 o (0=0∧chk a k=chk a k∧b_1.v=b_1.v∧b_2.w=b_2.w∧qx (b_2.i+1) ((∃(m:Nat),b_2.i+1=(↑m:Int)∧m≤length a∧b_2.w=ls8 a k o m∧(ofE
 a k≠0→m=0))∧length a-Int.toNat (b_2.i+1)<length a-Int.toNat b_2.i∧True)))))))))))∧((b_1.v==0)=false→1=1∧qs i64 a (qs u8 k (qs i64 o (0=0∧chk a k=chk a k∧
 b_1.v=b_1.v∧b_2.w=b_2.w∧b_2.w=ls8 a k o (length a)∧True)))))∧(ltb b_2.i (↑(length a):Int)=false→1=1∧qs i64 a (qs u8 k (qs i64 o (0=0∧chk a k=chk a k∧b_1.v=
 b_1.v∧b_2.w=b_2.w∧b_2.w=ls8 a k o (length a)∧True))))))))∧∀(b_2:VI),b_2.v=ls8 a k o (length a)→(((b_1.v==0)=true→(((↑(length o):Int) !=(↑(length a):Int))=
 true→1=1∧qs i64 a (qs u8 k (qs i64 o (0=0∧chk a k=chk a k∧b_1.v=b_1.v∧iI 5=5∧5=lstE a k o∧True))))∧(((↑(length o):Int) !=(↑(length a):Int))=false→1=1∧
 qs i64 a (qs u8 k (qs i64 o (0=0∧chk a k=chk a k∧b_1.v=b_1.v∧b_2.v=b_2.v∧b_2.v=lstE a k o∧True)))))∧((b_1.v==0)=false→1=1∧qs i64 a (qs u8 k (qs i64 o (0=0∧
 chk a k=chk a k∧b_1.v=b_1.v∧b_2.v=b_2.v∧b_2.v=lstE a k o∧True)))))∧∀(b_3:VI),(fun(zz8:Bool)=>(fun(zz7:Bool)=>(fun(zz2:Bool)=>(fun(zz1:Bool)=>(fun
 (zz0:Bool)=>(fun(zz6:Bool)=>b_3.v=lstE a k o→(length a=length a∧length k=length k∧length a<1000000)∧(length a=length a∧length k=length k∧length a<1000000∧
 length o=length o∧length o<1000000)∧(length a=length a∧length k=length k∧length a<1000000∧length k<1000000)∧(length a=length a∧length k=length k∧length a<
 1000000∧length k<1000000)∧((!ofE a k !=b_1.v)=true∧(!chk a k !=chk a k)=true∧(!chk a k !=chk a k)=true∧((chk a k !=0)=true→(fldB a k=true→false=true∧((b_1.v
 !=0)=true→(zz3=true→false=true∧True)∧(zz3=false→1=1∧qs i64 a (qs u8 k (1=1∧qs i64 (bLs (dcdB a k o) a) (qx zz4 (qs u8 (bLs (dcdB a k o) (kdL a o)) (qx zz5 (qs i64
 o (0=0∧chk a k=chk a k∧b_3.v=b_3.v∧0=0∧qx (dcdE a k o) (True∧True))))))))))∧((b_1.v !=0)=false→1=1∧qs i64 a (qs u8 k (1=1∧qs i64 (bLs (dcdB a k o) a) (qx zz4
 (qs u8 (bLs (dcdB a k o) (kdL a o)) (qx zz5 (qs i64 o (0=0∧chk a k=chk a k∧b_3.v=b_3.v∧0=0∧qx (dcdE a k o) (True∧True))))))))))∧(fldB a k=false→(!(↑(length (kndsL a
 k)):Int) !=0)=true∧((b_1.v !=0)=true→(zz3=true→false=true∧True)∧(zz3=false→1=1∧qs i64 a (qs u8 k (1=1∧qs i64 (bLs (dcdB a k o) a) (qx zz4 (qs u8 (bLs (dcdB
 a k o) (kdL a o)) (qx zz5 (qs i64 o (0=0∧chk a k=chk a k∧b_3.v=b_3.v∧0=0∧qx (dcdE a k o) (True∧True))))))))))∧((b_1.v !=0)=false→1=1∧qs i64 a (qs u8 k (1=1∧
 qs i64 (bLs (dcdB a k o) a) (qx zz4 (qs u8 (bLs (dcdB a k o) (kdL a o)) (qx zz5 (qs i64 o (0=0∧chk a k=chk a k∧b_3.v=b_3.v∧0=0∧qx (dcdE a k o) (True∧True)))))))))))∧((chk
 a k !=0)=false→((b_1.v !=0)=true→(zz3=true→false=true∧True)∧(zz3=false→1=1∧qs i64 a (qs u8 k (1=1∧qs i64 (bLs (dcdB a k o) a) (qx zz4 (qs u8 (bLs (dcdB a k o)
 (kdL a o)) (qx zz5 (qs i64 o (0=0∧chk a k=chk a k∧b_3.v=b_3.v∧0=0∧qx (dcdE a k o) (True∧True))))))))))∧((b_1.v !=0)=false→1=1∧qs i64 a (qs u8 k (1=1∧qs i64
 (bLs (dcdB a k o) a) (qx zz4 (qs u8 (bLs (dcdB a k o) (kdL a o)) (qx zz5 (qs i64 o (0=0∧chk a k=chk a k∧b_3.v=b_3.v∧0=0∧qx (dcdE a k o) (True∧True)))))))))))∧∀(b_4:
 Unit),True→(((lstE a k o==0)=true→(!b_3.v !=0)=true∧(!b_3.v !=0)=true∧(!b_3.v !=0)=true∧(!b_3.v !=0)=true∧(!b_3.v !=0)=true∧(!b_3.v !=0)=true∧(!b_3.v
 !=0)=true∧(!b_3.v !=0)=true∧(!b_3.v !=0)=true∧(!b_3.v !=0)=true∧(b_3.v==0)=true∧(b_3.v==0)=true∧(b_3.v==0)=true∧(length a=length a∧length k=length
 k∧length a<1000000∧length o=length o∧length o<1000000)∧(b_3.v==0)=true∧(b_3.v==0)=true∧(b_3.v==0)=true∧(length a=length a∧length k=length k∧length o=
 length o∧okA a∧length a=length k∧List.Perm o (map (fun(i:Nat)=>(↑i:Int)) (range.loop (length a) [])))∧(b_3.v==0)=true∧(b_3.v==0)=true∧((vldE a k o !=chkE a k o)
 =true→false=true∧True)∧((vldE a k o !=chkE a k o)=false→1=1∧qs i64 a (qs u8 k (1=1∧qs i64 (bLs (dcdB a k o) a) (qx zz4 (qs u8 (bLs (dcdB a k o) (kdL a o)) (qx zz5 (0=
 0∧chk a k=chk a k∧True∧True))))))))∧((lstE a k o==0)=false→(b_3.v !=0)=true∧(b_3.v !=0)=true∧(b_3.v !=0)=true∧(length a=length a∧length k=length k∧
 length a<1000000∧length o=length o∧length o<1000000)∧(b_3.v !=0)=true∧(b_3.v !=0)=true∧(b_3.v !=0)=true∧(zz8=true→zz8=true)∧(zz8=true→zz8=true)∧
 (b_3.v !=0)=true∧(bif vldE a k o !=b_3.v then true else !vldE a k o !=b_3.v&&true)=true∧(b_3.v !=0)=true∧(zz2=true→zz2=true)∧(zz2=true→zz2=true)∧(zz2=true
 →zz2=true)∧(b_3.v !=0)=true∧(bif bif vldE a k o !=b_3.v then true else dcdE a k o !=b_3.v then true else zz2&&true)=true∧(b_3.v !=0)=true∧(zz1=true→zz1=true)∧
 zz6=true∧zz6=true∧zz6=true∧zz6=true∧zz6=true∧zz6=true∧zz6=true∧(zz1=true→(zz0&&true)=true)∧(zz1=true→(!b_3.v==0)=true)∧(bif bif bif vldE a k o
 !=b_3.v then true else dcdE a k o !=b_3.v then true else(↑zz4:Int) !=0 then true else zz1&&true)=true∧(zz7=true→false=true∧True)∧(zz7=false→1=1∧qs i64 a (qs u8
 k (1=1∧qs i64 (bLs (dcdB a k o) a) (qx zz4 (qs u8 (bLs (dcdB a k o) (kdL a o)) (qx zz5 (0=0∧chk a k=chk a k∧True∧True)))))))))∧∀(b_5:Unit),True→((chk a k !=0)=true→
 (length a=length a∧length k=length k∧length a<1000000)∧(length a=length a∧length k=length k∧length a<1000000)∧(cntE a k==chk a k)=true∧(fstE a k==chk a k)=
 true∧((↑(length (cwL a k)):Int)==0)=true∧((↑(length (fstL a k)):Int)==0)=true∧true=true∧True)∧((chk a k !=0)=false→true=true∧True)) (!(zz0&&true&&b_3.v
 ==0))) (zz1&& !bif bif vldE a k o !=b_3.v then true else dcdE a k o !=b_3.v then true else(↑zz4:Int) !=0)) (!bif bif vldE a k o !=b_3.v then true else dcdE a k o !=b_3.v then true
 else(↑zz4:Int) !=0)) (!bif vldE a k o !=b_3.v then true else dcdE a k o !=b_3.v)) (bif bif bif vldE a k o !=b_3.v then true else dcdE a k o !=b_3.v then true else(↑zz4:Int) !=0
 then true else false)) (!vldE a k o !=b_3.v)) ((↑(length (bLs (altS a k) (take (length a) (raysL a)))):Int) !=0)) (length (bLs (dcdB a k o) a))) (length (bLs (dcdB a k o) (kdL a o)))):=by kernel_rfl

end Go.Proofs.YthiammkiobbclaaGreatDoor.X
