/-
 What is to be shown of the functions (made by a program).
-/
import Derived.Test.YtfafinkgmhkdmaaGreatDoorFGZ
set_option maxRecDepth 1000000
set_option linter.unusedVariables false
namespace Go.Proofs.YtfafinkgmhkdmaaGreatDoor.X
open Go Go.Ab
theorem C9C (c l f:Int)(ks:List Int):fnP (T3z) G 10000 fe3 (.r [] 0 (.r [] 5 (.r [] 1 (.r [] 29 (.r [yL 323,yL 324,yL 325,yL 328,yL 329,yL 330,yL 331,yL 334,yL 335,yL 336,yL 337,yL 340,yL 341,yL 342,yL 343,yL 344,yL 345,yL 346] 4294967159 (.ff (.r [] 0 (.r [] 0 (.r [] 0 (.r [] 0 (.lp (l3a (zA c ks) (ofK c ks) (Int.tmod f 8)) [] [] (fun b=>(.r [] 1 (.cnd (.r [] 3 (.jn (j3a b.d b.s b.m b.i) [] [] (.r [] 1 (.cnd (.r [] 1 (.r [] 0 .nil)) .nil)) (fun b_1=>(.r [] 1 (.r [] 0 .nil))))) (.r [] 13 (.r [] 7 (.ff (.r [] 0 (.r [] 0 (.lp (l3b (kdN (zA c ks) (ofK c ks) (Int.tmod f 8) (List.length (zA c ks)))) [] [] (fun b_1=>(.r [] 0 (.cnd (.jn (jI 16 IntKind.i64 (unN (kdN (zA c ks) (ofK c ks) (Int.tmod f 8) (List.length (zA c ks))) (Int.toNat b_1.i+1))) [114] [] (.r [] 0 (.cnd (.r [] 2 .nil) .nil)) (fun b_2=>(.r [] 0 .nil))) (.r [] 0 (.lp (l3c (zR c ks f)) [] [] (fun b_2=>(.r [] 0 (.cnd (.r [(1924,.auto,Dr.val [AV.int IntKind.i64 (dR (zR c ks f) b_2.i)]),yO 1927,yO 1928,yO 1929,yO 1930,(1931,.on,Dr.val [AV.int IntKind.i64 (dR (zR c ks f) b_2.i)]),yO 1932,yO 1935,yO 1936,yO 1937,yO 1938,(1939,.on,Dr.val [AV.int IntKind.i64 (dR (zR c ks f) b_2.i)]),yO 1940,yO 1941,yO 1942,yO 1943,yO 1944,yO 1945,(1946,.on,Dr.val [AV.int IntKind.u8 (kR (zR c ks f) b_2.i)]),yO 1947] 1099511644160 (.ff (.r [] 0 .nil))) (.r [] 61 (.r [yL 2115,yL 2116,yL 2117,yL 2118,yL 2119] 255 (.ff (.r [] 0 (.lp (l3d) [] [] (fun b_3=>(.r [] 0 (.cnd (.r [] 7715 (.br (zQ c ks f b_3.i) (.r [(2504,.off,Dr.plain),(2505,.off,Dr.plain),(2506,.off,Dr.plain),(2507,.off,Dr.plain),(2508,.off,Dr.plain),(2509,.off,Dr.plain),(2510,.off,Dr.plain),(2511,.off,Dr.plain),(2512,.off,Dr.plain),(2513,.off,Dr.plain),(2514,.off,Dr.plain),(2515,.off,Dr.plain),(2516,.off,Dr.plain),(2517,.off,Dr.plain),(2518,.off,Dr.plain),(2519,.off,Dr.plain),(2520,.off,Dr.plain),(2521,.off,Dr.plain),(2522,.off,Dr.plain),(2523,.off,Dr.plain),(2524,.off,Dr.plain),(2525,.off,Dr.plain),(2526,.auto,Dr.pk false)] 247457729 (.lit (.r [] 0 .nil))) (.r [yO 2504,yO 2505,yO 2506,yO 2507,yO 2508,yO 2509,yO 2510,yO 2511,yO 2512,yO 2513,(2514,.on,Dr.pk false),yO 2515,yO 2516,yO 2517,yO 2518,yO 2519,yO 2520,yO 2521,yO 2522,yO 2523,yO 2524,(2525,.on,Dr.pk false),(2526,.auto,Dr.pk true)] 1042380058003977 (.ff (.r [] 0 .nil))))) (.r [] 1 (.cnd (.rs 4 [] 3 235 (.rs 4 [] 3 239 (.r [] 7 .nil) (.r [] 3 .nil)) (.r [] 15 .nil)) (.r [] 29 (.rs 3 [] 0 250 (.rs 5 [] 27 255 (.rs 5 [] 3 260 (.r [] 7 .nil) (.r [] 3 .nil)) (.r [] 15 .nil)) (.r [] 63 .nil))))))))))))))))))))))))))))))))))))))))) ([fV c l ks,.int .u8 f]) ([.bool true]) ([])=(
(List.length ks=List.length ks/\okK ks)/\inR IntKind.i64 (Int.tmod f 8)=true/\(List.length (ofA c 0 ks)=List.length (ofA c 0 ks)/\List.length (ofK c ks)=List.length (ofK c ks)/\flF (ofA c
0 ks) (ofK c ks) (Int.tmod f 8))/\((P.flatC (crF (ofA c 0 ks) (ofK c ks) (Int.tmod f 8))=P.flatC (P.unC (P.flatC (crF (ofA c 0 ks) (ofK c ks) (Int.tmod f 8))))/\List.length (crF (ofA c 0 ks) (ofK
c ks) (Int.tmod f 8))=List.length (P.unC (P.flatC (crF (ofA c 0 ks) (ofK c ks) (Int.tmod f 8))))/\List.length (P.unC (P.flatC (crF (ofA c 0 ks) (ofK c ks) (Int.tmod f 8))))<1000000000)/\∀(x:
P.Cr),x∈P.unC (P.flatC (crF (ofA c 0 ks) (ofK c ks) (Int.tmod f 8)))->0<=x.snd.fst/\x.snd.fst<=255)/\(!P.chkI 2 2 (P.unC (P.flatC (crF (ofA c 0 ks) (ofK c ks) (Int.tmod f 8)))) !=0)=true/\
((↑(List.length (crF (ofA c 0 ks) (ofK c ks) (Int.tmod f 8))):Int) !=(↑(List.length (crF (ofA c 0 ks) (ofK c ks) (Int.tmod f 8))):Int))=false/\1=1/\c=c/\l=l/\Cont.ints IntKind.u8 ks=
Cont.ints IntKind.u8 ks/\List.length ks=List.length ks/\1=1/\Cont.ints IntKind.i64 (ofA c 0 ks)=Cont.ints IntKind.i64 (ofA c 0 ks)/\List.length (ofA c 0 ks)=List.length (ofA c 0 ks)/\
Cont.ints IntKind.u8 (ofK c ks)=Cont.ints IntKind.u8 (ofK c ks)/\List.length (ofK c ks)=List.length (ofK c ks)/\1=1/\iI 2=2/\iI 2=2/\Cont.vals (P.flatC (crF (ofA c 0 ks) (ofK c ks)
(Int.tmod f 8)))=Cont.vals (P.flatC (crF (ofA c 0 ks) (ofK c ks) (Int.tmod f 8)))/\List.length (crF (ofA c 0 ks) (ofK c ks) (Int.tmod f 8))=List.length (crF (ofA c 0 ks) (ofK c ks) (Int.tmod f
8))/\List.length (crF (ofA c 0 ks) (ofK c ks) (Int.tmod f 8))=List.length (crF (ofA c 0 ks) (ofK c ks) (Int.tmod f 8))/\8=8/\iL [0,0,0,0,0,0,0,0]=[0,0,0,0,0,0,0,0]/\0=0/\0=
0/\0=0/\Int.tmod f 8=Int.tmod f 8/\iI 8=8/\iI 0=0/\iI 0=0/\(∃(n:Nat),0=(↑n:Int)/\n<=List.length (zA c ks)/\[0,0,0,0,0,0,0,0]=kdN (zA c ks) (ofK c ks) (Int.tmod f 8)
n/\Int.tmod f 8=A63 (zA c ks) (Int.tmod f 8) n/\8=lsN (zA c ks) (Int.tmod f 8) n/\0=mnN (zA c ks) (Int.tmod f 8) n)/\∀(b:L3z),(∃(n:Nat),b.i=(↑n:Int)/\n<=List.length (zA c ks)
/\b.l=kdN (zA c ks) (ofK c ks) (Int.tmod f 8) n/\b.d=A63 (zA c ks) (Int.tmod f 8) n/\b.s=lsN (zA c ks) (Int.tmod f 8) n/\b.m=mnN (zA c ks) (Int.tmod f 8) n)->(ltb b.i (↑(List.length (ofA
c 0 ks)):Int)=true->leb 0 b.i=true/\ltb b.i (↑(List.length (ofK c ks)):Int)=true/\ltn 0 (Cont.size (Cont.ints IntKind.u8 (ofK c ks)))=true/\ltn 0 (Cont.size (Cont.ints IntKind.u8
(List.drop (Int.toNat b.i) (ofK c ks))))=true/\leb 0 (Int.tmod b.d 8)=true/\ltb (Int.tmod b.d 8) 8=true/\A0X (Int.toNat (Int.tmod b.d 8)+1) (Cont.size (Cont.ints IntKind.u8 b.l))=true/\
((ltb (Int.tmod b.d 8) b.s=true->1=1/\c=c/\l=l/\Cont.ints IntKind.u8 ks=Cont.ints IntKind.u8 ks/\List.length ks=List.length ks/\1=1/\Cont.ints IntKind.i64 (ofA c 0 ks)=Cont.ints
IntKind.i64 (ofA c 0 ks)/\List.length (ofA c 0 ks)=List.length (ofA c 0 ks)/\Cont.ints IntKind.u8 (ofK c ks)=Cont.ints IntKind.u8 (ofK c ks)/\List.length (ofK c ks)=List.length (ofK c ks)/\1
=1/\iI 2=2/\iI 2=2/\Cont.vals (P.flatC (crF (ofA c 0 ks) (ofK c ks) (Int.tmod f 8)))=Cont.vals (P.flatC (crF (ofA c 0 ks) (ofK c ks) (Int.tmod f 8)))/\List.length (crF (ofA c 0 ks) (ofK c
ks) (Int.tmod f 8))=List.length (crF (ofA c 0 ks) (ofK c ks) (Int.tmod f 8))/\List.length (crF (ofA c 0 ks) (ofK c ks) (Int.tmod f 8))=List.length (crF (ofA c 0 ks) (ofK c ks) (Int.tmod f 8))/\8
=8/\List.set b.l (Int.toNat (Int.tmod b.d 8)) (List.getD (List.drop (Int.toNat b.i) (ofK c ks)) 0 0)=List.set b.l (Int.toNat (Int.tmod b.d 8)) (List.getD (List.drop (Int.toNat b.i) (ofK c ks)) 0
0)/\0=0/\0=0/\0=0/\b.d=b.d/\Int.tmod b.d 8=Int.tmod b.d 8/\b.i=b.i/\b.i=b.i/\((Int.tmod b.d 8=bif ltb (Int.tmod b.d 8) b.s then Int.tmod b.d 8 else b.s)/\b.i=bif ltb
(Int.tmod b.d 8) b.s then b.i else b.m)/\True)/\(ltb (Int.tmod b.d 8) b.s=false->1=1/\c=c/\l=l/\Cont.ints IntKind.u8 ks=Cont.ints IntKind.u8 ks/\List.length ks=List.length ks/\1=
1/\Cont.ints IntKind.i64 (ofA c 0 ks)=Cont.ints IntKind.i64 (ofA c 0 ks)/\List.length (ofA c 0 ks)=List.length (ofA c 0 ks)/\Cont.ints IntKind.u8 (ofK c ks)=Cont.ints IntKind.u8 (ofK c ks)/\
List.length (ofK c ks)=List.length (ofK c ks)/\1=1/\iI 2=2/\iI 2=2/\Cont.vals (P.flatC (crF (ofA c 0 ks) (ofK c ks) (Int.tmod f 8)))=Cont.vals (P.flatC (crF (ofA c 0 ks) (ofK c ks)
(Int.tmod f 8)))/\List.length (crF (ofA c 0 ks) (ofK c ks) (Int.tmod f 8))=List.length (crF (ofA c 0 ks) (ofK c ks) (Int.tmod f 8))/\List.length (crF (ofA c 0 ks) (ofK c ks) (Int.tmod f 8))=
List.length (crF (ofA c 0 ks) (ofK c ks) (Int.tmod f 8))/\8=8/\List.set b.l (Int.toNat (Int.tmod b.d 8)) (List.getD (List.drop (Int.toNat b.i) (ofK c ks)) 0 0)=List.set b.l (Int.toNat (Int.tmod
b.d 8)) (List.getD (List.drop (Int.toNat b.i) (ofK c ks)) 0 0)/\0=0/\0=0/\0=0/\b.d=b.d/\b.s=b.s/\b.m=b.m/\b.i=b.i/\((b.s=bif ltb (Int.tmod b.d 8) b.s then Int.tmod b.d 8 else
b.s)/\b.m=bif ltb (Int.tmod b.d 8) b.s then b.i else b.m)/\True))/\∀(b_1:J3z),((b_1.s=bif ltb (Int.tmod b.d 8) b.s then Int.tmod b.d 8 else b.s)/\b_1.m=bif ltb (Int.tmod b.d 8) b.s then
b.i else b.m)->leb 0 b.i=true/\ltb b.i (↑(List.length (ofA c 0 ks)):Int)=true/\ltn 0 (Cont.size (Cont.ints IntKind.i64 (ofA c 0 ks)))=true/\ltn 0 (Cont.size (Cont.ints IntKind.i64
(List.drop (Int.toNat b.i) (ofA c 0 ks))))=true/\inR IntKind.i64 (b.d+List.getD (List.drop (Int.toNat b.i) (ofA c 0 ks)) 0 0)=true/\inR IntKind.i64 (b.i+1)=true/\1=1/\c=c/\l=l/\
Cont.ints IntKind.u8 ks=Cont.ints IntKind.u8 ks/\List.length ks=List.length ks/\1=1/\Cont.ints IntKind.i64 (ofA c 0 ks)=Cont.ints IntKind.i64 (ofA c 0 ks)/\List.length (ofA c 0 ks)=
List.length (ofA c 0 ks)/\Cont.ints IntKind.u8 (ofK c ks)=Cont.ints IntKind.u8 (ofK c ks)/\List.length (ofK c ks)=List.length (ofK c ks)/\1=1/\iI 2=2/\iI 2=2/\Cont.vals (P.flatC (crF
(ofA c 0 ks) (ofK c ks) (Int.tmod f 8)))=Cont.vals (P.flatC (crF (ofA c 0 ks) (ofK c ks) (Int.tmod f 8)))/\List.length (crF (ofA c 0 ks) (ofK c ks) (Int.tmod f 8))=List.length (crF (ofA c 0 ks)
(ofK c ks) (Int.tmod f 8))/\List.length (crF (ofA c 0 ks) (ofK c ks) (Int.tmod f 8))=List.length (crF (ofA c 0 ks) (ofK c ks) (Int.tmod f 8))/\8=8/\List.set b.l (Int.toNat (Int.tmod b.d 8))
(List.getD (List.drop (Int.toNat b.i) (ofK c ks)) 0 0)=List.set b.l (Int.toNat (Int.tmod b.d 8)) (List.getD (List.drop (Int.toNat b.i) (ofK c ks)) 0 0)/\0=0/\0=0/\0=0/\b.d+List.getD
(List.drop (Int.toNat b.i) (ofA c 0 ks)) 0 0=b.d+List.getD (List.drop (Int.toNat b.i) (ofA c 0 ks)) 0 0/\b_1.s=b_1.s/\b_1.m=b_1.m/\b.i+1=b.i+1/\(∃(n:Nat),b.i+1=(↑n:Int)/\n
<=List.length (zA c ks)/\List.set b.l (Int.toNat (Int.tmod b.d 8)) (List.getD (List.drop (Int.toNat b.i) (ofK c ks)) 0 0)=kdN (zA c ks) (ofK c ks) (Int.tmod f 8) n/\b.d+List.getD (List.drop
(Int.toNat b.i) (ofA c 0 ks)) 0 0=A63 (zA c ks) (Int.tmod f 8) n/\b_1.s=lsN (zA c ks) (Int.tmod f 8) n/\b_1.m=mnN (zA c ks) (Int.tmod f 8) n)/\List.length (zA c ks)-Int.toNat (b.i+1)<
List.length (zA c ks)-Int.toNat b.i/\True)/\(ltb b.i (↑(List.length (ofA c 0 ks)):Int)=false->(((P.flatC (crF (ofA c 0 ks) (ofK c ks) (Int.tmod f 8))=P.flatC (P.unC (P.flatC (crF (ofA c 0
ks) (ofK c ks) (Int.tmod f 8))))/\List.length (crF (ofA c 0 ks) (ofK c ks) (Int.tmod f 8))=List.length (P.unC (P.flatC (crF (ofA c 0 ks) (ofK c ks) (Int.tmod f 8))))/\List.length (P.unC (P.flatC
(crF (ofA c 0 ks) (ofK c ks) (Int.tmod f 8))))<1000000000)/\∃(ks_1:List Int),(List.length ks_1=20/\∀(k:Int),k∈ks_1->0<=k/\k<=3)/\P.unC (P.flatC (crF (ofA c 0 ks) (ofK c ks)
(Int.tmod f 8)))=P.wthL [1,2,3,5,6,7,13,14,17,18,19,25,26,27,29,31,37,38,41,43] ks_1)/\ptZ 2 2)/\((↑(List.length (raysL (P.unC (P.flatC (crF (ofA c 0 ks) (ofK c ks) (Int.tmod f
8)))) 2 2)):Int) !=(↑(List.length (ofK c ks)):Int))=false/\1=1/\c=c/\l=l/\Cont.ints IntKind.u8 ks=Cont.ints IntKind.u8 ks/\List.length ks=List.length ks/\1=1/\Cont.ints
IntKind.i64 (ofA c 0 ks)=Cont.ints IntKind.i64 (ofA c 0 ks)/\List.length (ofA c 0 ks)=List.length (ofA c 0 ks)/\Cont.ints IntKind.u8 (ofK c ks)=Cont.ints IntKind.u8 (ofK c ks)/\List.length
(ofK c ks)=List.length (ofK c ks)/\1=1/\iI 2=2/\iI 2=2/\Cont.vals (P.flatC (crF (ofA c 0 ks) (ofK c ks) (Int.tmod f 8)))=Cont.vals (P.flatC (crF (ofA c 0 ks) (ofK c ks) (Int.tmod f 8)))
/\List.length (crF (ofA c 0 ks) (ofK c ks) (Int.tmod f 8))=List.length (crF (ofA c 0 ks) (ofK c ks) (Int.tmod f 8))/\List.length (crF (ofA c 0 ks) (ofK c ks) (Int.tmod f 8))=List.length (crF (ofA
c 0 ks) (ofK c ks) (Int.tmod f 8))/\8=8/\b.l=b.l/\0=0/\0=0/\0=0/\b.s=b.s/\b.m=b.m/\ltb b.i (↑(List.length (ofA c 0 ks)):Int)=ltb b.i (↑(List.length (ofA c 0 ks)):Int)/\
Cont.vals (flR (raysL (P.unC (P.flatC (crF (ofA c 0 ks) (ofK c ks) (Int.tmod f 8)))) 2 2))=Cont.vals (flR (raysL (P.unC (P.flatC (crF (ofA c 0 ks) (ofK c ks) (Int.tmod f 8)))) 2 2))/\List.length
(raysL (P.unC (P.flatC (crF (ofA c 0 ks) (ofK c ks) (Int.tmod f 8)))) 2 2)=List.length (raysL (P.unC (P.flatC (crF (ofA c 0 ks) (ofK c ks) (Int.tmod f 8)))) 2 2)/\List.length (raysL (P.unC (P.flatC
(crF (ofA c 0 ks) (ofK c ks) (Int.tmod f 8)))) 2 2)=List.length (raysL (P.unC (P.flatC (crF (ofA c 0 ks) (ofK c ks) (Int.tmod f 8)))) 2 2)/\iI 0=0/\iI 0=0/\(∃(n:Nat),0=(↑n:Int)/\n<=
8/\0=unN (kdN (zA c ks) (ofK c ks) (Int.tmod f 8) (List.length (zA c ks))) n)/\∀(b_1:U3z),(∃(n:Nat),b_1.i=(↑n:Int)/\n<=8/\b_1.u=unN (kdN (zA c ks) (ofK c ks) (Int.tmod f 8)
(List.length (zA c ks))) n)->(ltb b_1.i 8=true->(leb 0 b_1.i=true/\ltb b_1.i 8=true/\ltn (Int.toNat b_1.i) (Cont.size (Cont.ints IntKind.u8 b.l))=true/\((List.getD b.l (Int.toNat b_1.i) 0
!=0)=true->inR IntKind.i64 (b_1.u+1)=true/\inR IntKind.i64 (b_1.u+1+Int.tmod b_1.i 2)=true/\1=1/\c=c/\l=l/\Cont.ints IntKind.u8 ks=Cont.ints IntKind.u8 ks/\List.length ks=
List.length ks/\1=1/\Cont.ints IntKind.i64 (ofA c 0 ks)=Cont.ints IntKind.i64 (ofA c 0 ks)/\List.length (ofA c 0 ks)=List.length (ofA c 0 ks)/\Cont.ints IntKind.u8 (ofK c ks)=Cont.ints
IntKind.u8 (ofK c ks)/\List.length (ofK c ks)=List.length (ofK c ks)/\1=1/\iI 2=2/\iI 2=2/\Cont.vals (P.flatC (crF (ofA c 0 ks) (ofK c ks) (Int.tmod f 8)))=Cont.vals (P.flatC (crF (ofA
c 0 ks) (ofK c ks) (Int.tmod f 8)))/\List.length (crF (ofA c 0 ks) (ofK c ks) (Int.tmod f 8))=List.length (crF (ofA c 0 ks) (ofK c ks) (Int.tmod f 8))/\List.length (crF (ofA c 0 ks) (ofK c ks)
(Int.tmod f 8))=List.length (crF (ofA c 0 ks) (ofK c ks) (Int.tmod f 8))/\8=8/\b.l=b.l/\0=0/\0=0/\0=0/\b.s=b.s/\b.m=b.m/\ltb b.i (↑(List.length (ofA c 0 ks)):Int)=ltb b.i
(↑(List.length (ofA c 0 ks)):Int)/\Cont.vals (flR (raysL (P.unC (P.flatC (crF (ofA c 0 ks) (ofK c ks) (Int.tmod f 8)))) 2 2))=Cont.vals (flR (raysL (P.unC (P.flatC (crF (ofA c 0 ks) (ofK c ks)
(Int.tmod f 8)))) 2 2))/\List.length (raysL (P.unC (P.flatC (crF (ofA c 0 ks) (ofK c ks) (Int.tmod f 8)))) 2 2)=List.length (raysL (P.unC (P.flatC (crF (ofA c 0 ks) (ofK c ks) (Int.tmod f 8)))) 2
2)/\List.length (raysL (P.unC (P.flatC (crF (ofA c 0 ks) (ofK c ks) (Int.tmod f 8)))) 2 2)=List.length (raysL (P.unC (P.flatC (crF (ofA c 0 ks) (ofK c ks) (Int.tmod f 8)))) 2 2)/\b_1.u+1+
Int.tmod b_1.i 2=b_1.u+1+Int.tmod b_1.i 2/\b_1.i=b_1.i/\b_1.u+1+Int.tmod b_1.i 2=unN (kdN (zA c ks) (ofK c ks) (Int.tmod f 8) (List.length (zA c ks))) (Int.toNat b_1.i+1)/\True)/\
((List.getD b.l (Int.toNat b_1.i) 0 !=0)=false->1=1/\c=c/\l=l/\Cont.ints IntKind.u8 ks=Cont.ints IntKind.u8 ks/\List.length ks=List.length ks/\1=1/\Cont.ints IntKind.i64 (ofA c 0
ks)=Cont.ints IntKind.i64 (ofA c 0 ks)/\List.length (ofA c 0 ks)=List.length (ofA c 0 ks)/\Cont.ints IntKind.u8 (ofK c ks)=Cont.ints IntKind.u8 (ofK c ks)/\List.length (ofK c ks)=
List.length (ofK c ks)/\1=1/\iI 2=2/\iI 2=2/\Cont.vals (P.flatC (crF (ofA c 0 ks) (ofK c ks) (Int.tmod f 8)))=Cont.vals (P.flatC (crF (ofA c 0 ks) (ofK c ks) (Int.tmod f 8)))/\List.length
(crF (ofA c 0 ks) (ofK c ks) (Int.tmod f 8))=List.length (crF (ofA c 0 ks) (ofK c ks) (Int.tmod f 8))/\List.length (crF (ofA c 0 ks) (ofK c ks) (Int.tmod f 8))=List.length (crF (ofA c 0 ks) (ofK
c ks) (Int.tmod f 8))/\8=8/\b.l=b.l/\0=0/\0=0/\0=0/\b.s=b.s/\b.m=b.m/\ltb b.i (↑(List.length (ofA c 0 ks)):Int)=ltb b.i (↑(List.length (ofA c 0 ks)):Int)/\Cont.vals (flR
(raysL (P.unC (P.flatC (crF (ofA c 0 ks) (ofK c ks) (Int.tmod f 8)))) 2 2))=Cont.vals (flR (raysL (P.unC (P.flatC (crF (ofA c 0 ks) (ofK c ks) (Int.tmod f 8)))) 2 2))/\List.length (raysL (P.unC
(P.flatC (crF (ofA c 0 ks) (ofK c ks) (Int.tmod f 8)))) 2 2)=List.length (raysL (P.unC (P.flatC (crF (ofA c 0 ks) (ofK c ks) (Int.tmod f 8)))) 2 2)/\List.length (raysL (P.unC (P.flatC (crF (ofA c 0
ks) (ofK c ks) (Int.tmod f 8)))) 2 2)=List.length (raysL (P.unC (P.flatC (crF (ofA c 0 ks) (ofK c ks) (Int.tmod f 8)))) 2 2)/\b_1.u=b_1.u/\b_1.i=b_1.i/\b_1.u=unN (kdN (zA c ks) (ofK c ks)
(Int.tmod f 8) (List.length (zA c ks))) (Int.toNat b_1.i+1)/\True))/\∀(b_2:VI),b_2.v=unN (kdN (zA c ks) (ofK c ks) (Int.tmod f 8) (List.length (zA c ks))) (Int.toNat b_1.i+1)->inR
IntKind.i64 (b_1.i+1)=true/\1=1/\c=c/\l=l/\Cont.ints IntKind.u8 ks=Cont.ints IntKind.u8 ks/\List.length ks=List.length ks/\1=1/\Cont.ints IntKind.i64 (ofA c 0 ks)=Cont.ints
IntKind.i64 (ofA c 0 ks)/\List.length (ofA c 0 ks)=List.length (ofA c 0 ks)/\Cont.ints IntKind.u8 (ofK c ks)=Cont.ints IntKind.u8 (ofK c ks)/\List.length (ofK c ks)=List.length (ofK c ks)/\1
=1/\iI 2=2/\iI 2=2/\Cont.vals (P.flatC (crF (ofA c 0 ks) (ofK c ks) (Int.tmod f 8)))=Cont.vals (P.flatC (crF (ofA c 0 ks) (ofK c ks) (Int.tmod f 8)))/\List.length (crF (ofA c 0 ks) (ofK c
ks) (Int.tmod f 8))=List.length (crF (ofA c 0 ks) (ofK c ks) (Int.tmod f 8))/\List.length (crF (ofA c 0 ks) (ofK c ks) (Int.tmod f 8))=List.length (crF (ofA c 0 ks) (ofK c ks) (Int.tmod f 8))/\8
=8/\b.l=b.l/\0=0/\0=0/\0=0/\b.s=b.s/\b.m=b.m/\ltb b.i (↑(List.length (ofA c 0 ks)):Int)=ltb b.i (↑(List.length (ofA c 0 ks)):Int)/\Cont.vals (flR (raysL (P.unC (P.flatC (crF
(ofA c 0 ks) (ofK c ks) (Int.tmod f 8)))) 2 2))=Cont.vals (flR (raysL (P.unC (P.flatC (crF (ofA c 0 ks) (ofK c ks) (Int.tmod f 8)))) 2 2))/\List.length (raysL (P.unC (P.flatC (crF (ofA c 0 ks) (ofK
c ks) (Int.tmod f 8)))) 2 2)=List.length (raysL (P.unC (P.flatC (crF (ofA c 0 ks) (ofK c ks) (Int.tmod f 8)))) 2 2)/\List.length (raysL (P.unC (P.flatC (crF (ofA c 0 ks) (ofK c ks) (Int.tmod f
8)))) 2 2)=List.length (raysL (P.unC (P.flatC (crF (ofA c 0 ks) (ofK c ks) (Int.tmod f 8)))) 2 2)/\b_2.v=b_2.v/\b_1.i+1=b_1.i+1/\(∃(n:Nat),b_1.i+1=(↑n:Int)/\n<=8/\b_2.v=unN
(kdN (zA c ks) (ofK c ks) (Int.tmod f 8) (List.length (zA c ks))) n)/\8-Int.toNat (b_1.i+1)<8-Int.toNat b_1.i/\True)/\(ltb b_1.i 8=false->1=1/\c=c/\l=l/\Cont.ints IntKind.u8 ks
=Cont.ints IntKind.u8 ks/\List.length ks=List.length ks/\1=1/\Cont.ints IntKind.i64 (ofA c 0 ks)=Cont.ints IntKind.i64 (ofA c 0 ks)/\List.length (ofA c 0 ks)=List.length (ofA c 0 ks)/\
Cont.ints IntKind.u8 (ofK c ks)=Cont.ints IntKind.u8 (ofK c ks)/\List.length (ofK c ks)=List.length (ofK c ks)/\1=1/\iI 2=2/\iI 2=2/\Cont.vals (P.flatC (crF (ofA c 0 ks) (ofK c ks)
(Int.tmod f 8)))=Cont.vals (P.flatC (crF (ofA c 0 ks) (ofK c ks) (Int.tmod f 8)))/\List.length (crF (ofA c 0 ks) (ofK c ks) (Int.tmod f 8))=List.length (crF (ofA c 0 ks) (ofK c ks) (Int.tmod f
8))/\List.length (crF (ofA c 0 ks) (ofK c ks) (Int.tmod f 8))=List.length (crF (ofA c 0 ks) (ofK c ks) (Int.tmod f 8))/\8=8/\b.l=b.l/\0=0/\0=0/\0=0/\b.s=b.s/\b.m=b.m/\ltb b.i
(↑(List.length (ofA c 0 ks)):Int)=ltb b.i (↑(List.length (ofA c 0 ks)):Int)/\Cont.vals (flR (raysL (P.unC (P.flatC (crF (ofA c 0 ks) (ofK c ks) (Int.tmod f 8)))) 2 2))=Cont.vals (flR (raysL
(P.unC (P.flatC (crF (ofA c 0 ks) (ofK c ks) (Int.tmod f 8)))) 2 2))/\List.length (raysL (P.unC (P.flatC (crF (ofA c 0 ks) (ofK c ks) (Int.tmod f 8)))) 2 2)=List.length (raysL (P.unC (P.flatC (crF
(ofA c 0 ks) (ofK c ks) (Int.tmod f 8)))) 2 2)/\List.length (raysL (P.unC (P.flatC (crF (ofA c 0 ks) (ofK c ks) (Int.tmod f 8)))) 2 2)=List.length (raysL (P.unC (P.flatC (crF (ofA c 0 ks) (ofK c
ks) (Int.tmod f 8)))) 2 2)/\b_1.u=b_1.u/\ltb b_1.i 8=ltb b_1.i 8/\iI 0=0/\(∃(n:Nat),0=(↑n:Int)/\n<=List.length (zR c ks f))/\∀(b_2:I3z),(∃(n:Nat),b_2.i=(↑n:Int)/\n<=
List.length (zR c ks f))->(ltb b_2.i (↑(List.length (raysL (P.unC (P.flatC (crF (ofA c 0 ks) (ofK c ks) (Int.tmod f 8)))) 2 2)):Int)=true->leb 0 b_2.i=true/\ltb b_2.i (↑(List.length (raysL
(P.unC (P.flatC (crF (ofA c 0 ks) (ofK c ks) (Int.tmod f 8)))) 2 2)):Int)=true/\ltn 0 (Cont.size (Cont.vals (flR (raysL (P.unC (P.flatC (crF (ofA c 0 ks) (ofK c ks) (Int.tmod f 8)))) 2 2))))=
true/\(List.drop 0 (List.drop (Int.toNat b_2.i*2) (flR (raysL (P.unC (P.flatC (crF (ofA c 0 ks) (ofK c ks) (Int.tmod f 8)))) 2 2))))[0]? =some (AV.int IntKind.i64 (dR (zR c ks f) b_2.i))/\(!ltb
(dR (zR c ks f) b_2.i) 0)=true/\(!ltb (dR (zR c ks f) b_2.i) 0)=true/\(!ltb (dR (zR c ks f) b_2.i) 0)=true/\leb 0 b_2.i=true/\ltb b_2.i (↑(List.length (raysL (P.unC (P.flatC (crF (ofA c 0
ks) (ofK c ks) (Int.tmod f 8)))) 2 2)):Int)=true/\ltn 0 (Cont.size (Cont.vals (flR (raysL (P.unC (P.flatC (crF (ofA c 0 ks) (ofK c ks) (Int.tmod f 8)))) 2 2))))=true/\(!ltb (dR (zR c ks f)
b_2.i) 0)=true/\(!ltb (dR (zR c ks f) b_2.i) 0)=true/\(List.drop 0 (List.drop (Int.toNat b_2.i*2) (flR (raysL (P.unC (P.flatC (crF (ofA c 0 ks) (ofK c ks) (Int.tmod f 8)))) 2 2))))[0]? =some
(AV.int IntKind.i64 (dR (zR c ks f) b_2.i))/\(!ltb (dR (zR c ks f) b_2.i) 0)=true/\(bif ltb (dR (zR c ks f) b_2.i) 0 then true else true)=true/\(!bif ltb (dR (zR c ks f) b_2.i) 0 then true else
ltb 7 (dR (zR c ks f) b_2.i))=true/\(!bif ltb (dR (zR c ks f) b_2.i) 0 then true else ltb 7 (dR (zR c ks f) b_2.i))=true/\(!bif ltb (dR (zR c ks f) b_2.i) 0 then true else ltb 7 (dR (zR c ks f)
b_2.i))=true/\leb 0 b_2.i=true/\ltb b_2.i (↑(List.length (raysL (P.unC (P.flatC (crF (ofA c 0 ks) (ofK c ks) (Int.tmod f 8)))) 2 2)):Int)=true/\ltn 0 (Cont.size (Cont.vals (flR (raysL
(P.unC (P.flatC (crF (ofA c 0 ks) (ofK c ks) (Int.tmod f 8)))) 2 2))))=true/\(!bif ltb (dR (zR c ks f) b_2.i) 0 then true else ltb 7 (dR (zR c ks f) b_2.i))=true/\(!bif ltb (dR (zR c ks f)
b_2.i) 0 then true else ltb 7 (dR (zR c ks f) b_2.i))=true/\(List.drop 0 (List.drop (Int.toNat b_2.i*2) (flR (raysL (P.unC (P.flatC (crF (ofA c 0 ks) (ofK c ks) (Int.tmod f 8)))) 2 2))))[0]? =
some (AV.int IntKind.i64 (dR (zR c ks f) b_2.i))/\(!bif ltb (dR (zR c ks f) b_2.i) 0 then true else ltb 7 (dR (zR c ks f) b_2.i))=true/\leb 0 (dR (zR c ks f) b_2.i)=true/\ltb (dR (zR c ks f)
b_2.i) 8=true/\(!bif ltb (dR (zR c ks f) b_2.i) 0 then true else ltb 7 (dR (zR c ks f) b_2.i))=true/\ltn (Int.toNat (dR (zR c ks f) b_2.i)) (Cont.size (Cont.ints IntKind.u8 b.l))=true/\(!bif
ltb (dR (zR c ks f) b_2.i) 0 then true else ltb 7 (dR (zR c ks f) b_2.i))=true/\(!bif ltb (dR (zR c ks f) b_2.i) 0 then true else ltb 7 (dR (zR c ks f) b_2.i))=true/\(!bif ltb (dR (zR c ks f)
b_2.i) 0 then true else ltb 7 (dR (zR c ks f) b_2.i))=true/\leb 0 b_2.i=true/\ltb b_2.i (↑(List.length (raysL (P.unC (P.flatC (crF (ofA c 0 ks) (ofK c ks) (Int.tmod f 8)))) 2 2)):Int)=true/\
ltn 0 (Cont.size (Cont.vals (flR (raysL (P.unC (P.flatC (crF (ofA c 0 ks) (ofK c ks) (Int.tmod f 8)))) 2 2))))=true/\(!bif ltb (dR (zR c ks f) b_2.i) 0 then true else ltb 7 (dR (zR c ks f) b_2.i))
=true/\(!bif ltb (dR (zR c ks f) b_2.i) 0 then true else ltb 7 (dR (zR c ks f) b_2.i))=true/\(List.drop 1 (List.drop (Int.toNat b_2.i*2) (flR (raysL (P.unC (P.flatC (crF (ofA c 0 ks) (ofK c ks)
(Int.tmod f 8)))) 2 2))))[0]? =some (AV.int IntKind.u8 (kR (zR c ks f) b_2.i))/\(!bif ltb (dR (zR c ks f) b_2.i) 0 then true else ltb 7 (dR (zR c ks f) b_2.i))=true/\(bif bif ltb (dR (zR c ks f)
b_2.i) 0 then true else ltb 7 (dR (zR c ks f) b_2.i)then true else true)=true/\(bif bif ltb (dR (zR c ks f) b_2.i) 0 then true else ltb 7 (dR (zR c ks f) b_2.i)then true else List.getD b.l
(Int.toNat (dR (zR c ks f) b_2.i)) 0 !=kR (zR c ks f) b_2.i)=false/\inR IntKind.i64 (b_2.i+1)=true/\1=1/\c=c/\l=l/\Cont.ints IntKind.u8 ks=Cont.ints IntKind.u8 ks/\List.length ks
=List.length ks/\1=1/\Cont.ints IntKind.i64 (ofA c 0 ks)=Cont.ints IntKind.i64 (ofA c 0 ks)/\List.length (ofA c 0 ks)=List.length (ofA c 0 ks)/\Cont.ints IntKind.u8 (ofK c ks)=Cont.ints
IntKind.u8 (ofK c ks)/\List.length (ofK c ks)=List.length (ofK c ks)/\1=1/\iI 2=2/\iI 2=2/\Cont.vals (P.flatC (crF (ofA c 0 ks) (ofK c ks) (Int.tmod f 8)))=Cont.vals (P.flatC (crF (ofA
c 0 ks) (ofK c ks) (Int.tmod f 8)))/\List.length (crF (ofA c 0 ks) (ofK c ks) (Int.tmod f 8))=List.length (crF (ofA c 0 ks) (ofK c ks) (Int.tmod f 8))/\List.length (crF (ofA c 0 ks) (ofK c ks)
(Int.tmod f 8))=List.length (crF (ofA c 0 ks) (ofK c ks) (Int.tmod f 8))/\8=8/\b.l=b.l/\0=0/\0=0/\0=0/\b.s=b.s/\b.m=b.m/\ltb b.i (↑(List.length (ofA c 0 ks)):Int)=ltb b.i
(↑(List.length (ofA c 0 ks)):Int)/\Cont.vals (flR (raysL (P.unC (P.flatC (crF (ofA c 0 ks) (ofK c ks) (Int.tmod f 8)))) 2 2))=Cont.vals (flR (raysL (P.unC (P.flatC (crF (ofA c 0 ks) (ofK c ks)
(Int.tmod f 8)))) 2 2))/\List.length (raysL (P.unC (P.flatC (crF (ofA c 0 ks) (ofK c ks) (Int.tmod f 8)))) 2 2)=List.length (raysL (P.unC (P.flatC (crF (ofA c 0 ks) (ofK c ks) (Int.tmod f 8)))) 2
2)/\List.length (raysL (P.unC (P.flatC (crF (ofA c 0 ks) (ofK c ks) (Int.tmod f 8)))) 2 2)=List.length (raysL (P.unC (P.flatC (crF (ofA c 0 ks) (ofK c ks) (Int.tmod f 8)))) 2 2)/\b_1.u=b_1.u/\
ltb b_1.i 8=ltb b_1.i 8/\b_2.i+1=b_2.i+1/\(∃(n:Nat),b_2.i+1=(↑n:Int)/\n<=List.length (zR c ks f))/\List.length (zR c ks f)-Int.toNat (b_2.i+1)<List.length (zR c ks f)-
Int.toNat b_2.i/\True)/\(ltb b_2.i (↑(List.length (raysL (P.unC (P.flatC (crF (ofA c 0 ks) (ofK c ks) (Int.tmod f 8)))) 2 2)):Int)=false->(((P.flatC (crF (ofA c 0 ks) (ofK c ks) (Int.tmod f 8))
=P.flatC (P.unC (P.flatC (crF (ofA c 0 ks) (ofK c ks) (Int.tmod f 8))))/\List.length (crF (ofA c 0 ks) (ofK c ks) (Int.tmod f 8))=List.length (P.unC (P.flatC (crF (ofA c 0 ks) (ofK c ks) (Int.tmod
f 8))))/\List.length (P.unC (P.flatC (crF (ofA c 0 ks) (ofK c ks) (Int.tmod f 8))))<1000000000)/\∃(ks_1:List Int),(List.length ks_1=20/\∀(k:Int),k∈ks_1->0<=k/\k<=3)/\P.unC
(P.flatC (crF (ofA c 0 ks) (ofK c ks) (Int.tmod f 8)))=P.wthL [1,2,3,5,6,7,13,14,17,18,19,25,26,27,29,31,37,38,41,43] ks_1)/\ptZ 2 2)/\((↑(List.length (crF (ofA c 0 ks) (ofK c
ks) (Int.tmod f 8))):Int) !=b_1.u)=false/\1=1/\c=c/\l=l/\Cont.ints IntKind.u8 ks=Cont.ints IntKind.u8 ks/\List.length ks=List.length ks/\1=1/\Cont.ints IntKind.i64 (ofA c 0 ks)
=Cont.ints IntKind.i64 (ofA c 0 ks)/\List.length (ofA c 0 ks)=List.length (ofA c 0 ks)/\Cont.ints IntKind.u8 (ofK c ks)=Cont.ints IntKind.u8 (ofK c ks)/\List.length (ofK c ks)=List.length
(ofK c ks)/\1=1/\iI 2=2/\iI 2=2/\Cont.vals (P.flatC (crF (ofA c 0 ks) (ofK c ks) (Int.tmod f 8)))=Cont.vals (P.flatC (crF (ofA c 0 ks) (ofK c ks) (Int.tmod f 8)))/\List.length (crF (ofA c
0 ks) (ofK c ks) (Int.tmod f 8))=List.length (crF (ofA c 0 ks) (ofK c ks) (Int.tmod f 8))/\List.length (crF (ofA c 0 ks) (ofK c ks) (Int.tmod f 8))=List.length (crF (ofA c 0 ks) (ofK c ks)
(Int.tmod f 8))/\8=8/\b.l=b.l/\1=1/\Cont.ints IntKind.i64 (angR (raysL (P.unC (P.flatC (crF (ofA c 0 ks) (ofK c ks) (Int.tmod f 8)))) 2 2) (List.length (raysL (P.unC (P.flatC (crF (ofA c 0
ks) (ofK c ks) (Int.tmod f 8)))) 2 2)))=Cont.ints IntKind.i64 (angR (raysL (P.unC (P.flatC (crF (ofA c 0 ks) (ofK c ks) (Int.tmod f 8)))) 2 2) (List.length (raysL (P.unC (P.flatC (crF (ofA c 0 ks)
(ofK c ks) (Int.tmod f 8)))) 2 2)))/\List.length (angR (raysL (P.unC (P.flatC (crF (ofA c 0 ks) (ofK c ks) (Int.tmod f 8)))) 2 2) (List.length (raysL (P.unC (P.flatC (crF (ofA c 0 ks) (ofK c ks)
(Int.tmod f 8)))) 2 2)))=List.length (angR (raysL (P.unC (P.flatC (crF (ofA c 0 ks) (ofK c ks) (Int.tmod f 8)))) 2 2) (List.length (raysL (P.unC (P.flatC (crF (ofA c 0 ks) (ofK c ks) (Int.tmod f
8)))) 2 2)))/\List.length (angR (raysL (P.unC (P.flatC (crF (ofA c 0 ks) (ofK c ks) (Int.tmod f 8)))) 2 2) (List.length (raysL (P.unC (P.flatC (crF (ofA c 0 ks) (ofK c ks) (Int.tmod f 8)))) 2 2)))=
List.length (angR (raysL (P.unC (P.flatC (crF (ofA c 0 ks) (ofK c ks) (Int.tmod f 8)))) 2 2) (List.length (raysL (P.unC (P.flatC (crF (ofA c 0 ks) (ofK c ks) (Int.tmod f 8)))) 2 2)))/\Cont.ints
IntKind.u8 (kndR (raysL (P.unC (P.flatC (crF (ofA c 0 ks) (ofK c ks) (Int.tmod f 8)))) 2 2))=Cont.ints IntKind.u8 (kndR (raysL (P.unC (P.flatC (crF (ofA c 0 ks) (ofK c ks) (Int.tmod f 8)))) 2 2))/\
List.length (kndR (raysL (P.unC (P.flatC (crF (ofA c 0 ks) (ofK c ks) (Int.tmod f 8)))) 2 2))=List.length (kndR (raysL (P.unC (P.flatC (crF (ofA c 0 ks) (ofK c ks) (Int.tmod f 8)))) 2 2))/\
List.length (kndR (raysL (P.unC (P.flatC (crF (ofA c 0 ks) (ofK c ks) (Int.tmod f 8)))) 2 2))=List.length (kndR (raysL (P.unC (P.flatC (crF (ofA c 0 ks) (ofK c ks) (Int.tmod f 8)))) 2 2))/\0=0/\
0=0/\b.s=b.s/\b.m=b.m/\ltb b.i (↑(List.length (ofA c 0 ks)):Int)=ltb b.i (↑(List.length (ofA c 0 ks)):Int)/\ltb b_1.i 8=ltb b_1.i 8/\ltb b_2.i (↑(List.length (raysL (P.unC (P.flatC
(crF (ofA c 0 ks) (ofK c ks) (Int.tmod f 8)))) 2 2)):Int)=ltb b_2.i (↑(List.length (raysL (P.unC (P.flatC (crF (ofA c 0 ks) (ofK c ks) (Int.tmod f 8)))) 2 2)):Int)/\0=0/\dR (raysL (P.unC
(P.flatC (crF (ofA c 0 ks) (ofK c ks) (Int.tmod f 8)))) 2 2) 0=dR (raysL (P.unC (P.flatC (crF (ofA c 0 ks) (ofK c ks) (Int.tmod f 8)))) 2 2) 0/\iI 0=0/\(∃(n:Nat),0=(↑n:Int)/\n<=4)/\∀
(b_3:I3z),(∃(n:Nat),b_3.i=(↑n:Int)/\n<=4)->(ltb b_3.i 4=true->inR IntKind.i64 (2*Int.tmod b_3.i 2)=true/\inR IntKind.i64 (1+2*Int.tmod b_3.i 2)=true/\inR IntKind.i64
(Int.tdiv b_3.i 2)=true/\inR IntKind.i64 (Int.tdiv b_3.i 2*2)=true/\inR IntKind.i64 (1+Int.tdiv b_3.i 2*2)=true/\(((P.flatC (crF (ofA c 0 ks) (ofK c ks) (Int.tmod f 8))=P.flatC (P.unC
(P.flatC (crF (ofA c 0 ks) (ofK c ks) (Int.tmod f 8))))/\List.length (crF (ofA c 0 ks) (ofK c ks) (Int.tmod f 8))=List.length (P.unC (P.flatC (crF (ofA c 0 ks) (ofK c ks) (Int.tmod f 8))))/\
List.length (P.unC (P.flatC (crF (ofA c 0 ks) (ofK c ks) (Int.tmod f 8))))<1000000000)/\∃(ks_1:List Int),(List.length ks_1=20/\∀(k:Int),k∈ks_1->0<=k/\k<=3)/\P.unC (P.flatC (crF
(ofA c 0 ks) (ofK c ks) (Int.tmod f 8)))=P.wthL [1,2,3,5,6,7,13,14,17,18,19,25,26,27,29,31,37,38,41,43] ks_1)/\ptZ (1+2*Int.tmod b_3.i 2) (1+Int.tdiv b_3.i 2*2))/\(zQ c
ks f b_3.i=true->(!(↑(List.length (angR (raysL (P.unC (P.flatC (crF (ofA c 0 ks) (ofK c ks) (Int.tmod f 8)))) (1+2*Int.tmod b_3.i 2) (1+Int.tdiv b_3.i 2*2)) (List.length (raysL (P.unC
(P.flatC (crF (ofA c 0 ks) (ofK c ks) (Int.tmod f 8)))) (1+2*Int.tmod b_3.i 2) (1+Int.tdiv b_3.i 2*2))))):Int) !=0)=true/\(!(↑(List.length (angR (raysL (P.unC (P.flatC (crF (ofA c 0 ks)
(ofK c ks) (Int.tmod f 8)))) (1+2*Int.tmod b_3.i 2) (1+Int.tdiv b_3.i 2*2)) (List.length (raysL (P.unC (P.flatC (crF (ofA c 0 ks) (ofK c ks) (Int.tmod f 8)))) (1+2*Int.tmod b_3.i 2) (1+
Int.tdiv b_3.i 2*2))))):Int) !=0)=true/\(!(↑(List.length (angR (raysL (P.unC (P.flatC (crF (ofA c 0 ks) (ofK c ks) (Int.tmod f 8)))) (1+2*Int.tmod b_3.i 2) (1+Int.tdiv b_3.i 2*2))
(List.length (raysL (P.unC (P.flatC (crF (ofA c 0 ks) (ofK c ks) (Int.tmod f 8)))) (1+2*Int.tmod b_3.i 2) (1+Int.tdiv b_3.i 2*2))))):Int) !=0)=true/\(!(↑(List.length (angR (raysL (P.unC
(P.flatC (crF (ofA c 0 ks) (ofK c ks) (Int.tmod f 8)))) (1+2*Int.tmod b_3.i 2) (1+Int.tdiv b_3.i 2*2)) (List.length (raysL (P.unC (P.flatC (crF (ofA c 0 ks) (ofK c ks) (Int.tmod f 8)))) (1+2
*Int.tmod b_3.i 2) (1+Int.tdiv b_3.i 2*2))))):Int) !=0)=true/\(!(↑(List.length (angR (raysL (P.unC (P.flatC (crF (ofA c 0 ks) (ofK c ks) (Int.tmod f 8)))) (1+2*Int.tmod b_3.i 2) (1+
Int.tdiv b_3.i 2*2)) (List.length (raysL (P.unC (P.flatC (crF (ofA c 0 ks) (ofK c ks) (Int.tmod f 8)))) (1+2*Int.tmod b_3.i 2) (1+Int.tdiv b_3.i 2*2))))):Int) !=0)=true/\
(!(↑(List.length (angR (raysL (P.unC (P.flatC (crF (ofA c 0 ks) (ofK c ks) (Int.tmod f 8)))) (1+2*Int.tmod b_3.i 2) (1+Int.tdiv b_3.i 2*2)) (List.length (raysL (P.unC (P.flatC (crF (ofA c 0
ks) (ofK c ks) (Int.tmod f 8)))) (1+2*Int.tmod b_3.i 2) (1+Int.tdiv b_3.i 2*2))))):Int) !=0)=true/\(!(↑(List.length (angR (raysL (P.unC (P.flatC (crF (ofA c 0 ks) (ofK c ks) (Int.tmod f
8)))) (1+2*Int.tmod b_3.i 2) (1+Int.tdiv b_3.i 2*2)) (List.length (raysL (P.unC (P.flatC (crF (ofA c 0 ks) (ofK c ks) (Int.tmod f 8)))) (1+2*Int.tmod b_3.i 2) (1+Int.tdiv b_3.i 2*
2))))):Int) !=0)=true/\(!(↑(List.length (angR (raysL (P.unC (P.flatC (crF (ofA c 0 ks) (ofK c ks) (Int.tmod f 8)))) (1+2*Int.tmod b_3.i 2) (1+Int.tdiv b_3.i 2*2)) (List.length (raysL
(P.unC (P.flatC (crF (ofA c 0 ks) (ofK c ks) (Int.tmod f 8)))) (1+2*Int.tmod b_3.i 2) (1+Int.tdiv b_3.i 2*2))))):Int) !=0)=true/\(!(↑(List.length (angR (raysL (P.unC (P.flatC (crF (ofA c
0 ks) (ofK c ks) (Int.tmod f 8)))) (1+2*Int.tmod b_3.i 2) (1+Int.tdiv b_3.i 2*2)) (List.length (raysL (P.unC (P.flatC (crF (ofA c 0 ks) (ofK c ks) (Int.tmod f 8)))) (1+2*Int.tmod b_3.i 2)
(1+Int.tdiv b_3.i 2*2))))):Int) !=0)=true/\inR IntKind.i64 (b_3.i+1)=true/\1=1/\c=c/\l=l/\Cont.ints IntKind.u8 ks=Cont.ints IntKind.u8 ks/\List.length ks=List.length ks/\
1=1/\Cont.ints IntKind.i64 (ofA c 0 ks)=Cont.ints IntKind.i64 (ofA c 0 ks)/\List.length (ofA c 0 ks)=List.length (ofA c 0 ks)/\Cont.ints IntKind.u8 (ofK c ks)=Cont.ints IntKind.u8 (ofK c
ks)/\List.length (ofK c ks)=List.length (ofK c ks)/\1=1/\iI 2=2/\iI 2=2/\Cont.vals (P.flatC (crF (ofA c 0 ks) (ofK c ks) (Int.tmod f 8)))=Cont.vals (P.flatC (crF (ofA c 0 ks) (ofK c ks)
(Int.tmod f 8)))/\List.length (crF (ofA c 0 ks) (ofK c ks) (Int.tmod f 8))=List.length (crF (ofA c 0 ks) (ofK c ks) (Int.tmod f 8))/\List.length (crF (ofA c 0 ks) (ofK c ks) (Int.tmod f 8))=
List.length (crF (ofA c 0 ks) (ofK c ks) (Int.tmod f 8))/\8=8/\b.l=b.l/\1=1/\Cont.ints IntKind.i64 (angR (raysL (P.unC (P.flatC (crF (ofA c 0 ks) (ofK c ks) (Int.tmod f 8)))) 2 2)
(List.length (raysL (P.unC (P.flatC (crF (ofA c 0 ks) (ofK c ks) (Int.tmod f 8)))) 2 2)))=Cont.ints IntKind.i64 (angR (raysL (P.unC (P.flatC (crF (ofA c 0 ks) (ofK c ks) (Int.tmod f 8)))) 2 2)
(List.length (raysL (P.unC (P.flatC (crF (ofA c 0 ks) (ofK c ks) (Int.tmod f 8)))) 2 2)))/\List.length (angR (raysL (P.unC (P.flatC (crF (ofA c 0 ks) (ofK c ks) (Int.tmod f 8)))) 2 2) (List.length
(raysL (P.unC (P.flatC (crF (ofA c 0 ks) (ofK c ks) (Int.tmod f 8)))) 2 2)))=List.length (angR (raysL (P.unC (P.flatC (crF (ofA c 0 ks) (ofK c ks) (Int.tmod f 8)))) 2 2) (List.length (raysL (P.unC
(P.flatC (crF (ofA c 0 ks) (ofK c ks) (Int.tmod f 8)))) 2 2)))/\List.length (angR (raysL (P.unC (P.flatC (crF (ofA c 0 ks) (ofK c ks) (Int.tmod f 8)))) 2 2) (List.length (raysL (P.unC (P.flatC (crF
(ofA c 0 ks) (ofK c ks) (Int.tmod f 8)))) 2 2)))=List.length (angR (raysL (P.unC (P.flatC (crF (ofA c 0 ks) (ofK c ks) (Int.tmod f 8)))) 2 2) (List.length (raysL (P.unC (P.flatC (crF (ofA c 0 ks)
(ofK c ks) (Int.tmod f 8)))) 2 2)))/\Cont.ints IntKind.u8 (kndR (raysL (P.unC (P.flatC (crF (ofA c 0 ks) (ofK c ks) (Int.tmod f 8)))) 2 2))=Cont.ints IntKind.u8 (kndR (raysL (P.unC (P.flatC (crF
(ofA c 0 ks) (ofK c ks) (Int.tmod f 8)))) 2 2))/\List.length (kndR (raysL (P.unC (P.flatC (crF (ofA c 0 ks) (ofK c ks) (Int.tmod f 8)))) 2 2))=List.length (kndR (raysL (P.unC (P.flatC (crF (ofA c 0
ks) (ofK c ks) (Int.tmod f 8)))) 2 2))/\List.length (kndR (raysL (P.unC (P.flatC (crF (ofA c 0 ks) (ofK c ks) (Int.tmod f 8)))) 2 2))=List.length (kndR (raysL (P.unC (P.flatC (crF (ofA c 0 ks) (ofK
c ks) (Int.tmod f 8)))) 2 2))/\0=0/\0=0/\b.s=b.s/\b.m=b.m/\ltb b.i (↑(List.length (ofA c 0 ks)):Int)=ltb b.i (↑(List.length (ofA c 0 ks)):Int)/\ltb b_1.i 8=ltb b_1.i 8/\ltb
b_2.i (↑(List.length (raysL (P.unC (P.flatC (crF (ofA c 0 ks) (ofK c ks) (Int.tmod f 8)))) 2 2)):Int)=ltb b_2.i (↑(List.length (raysL (P.unC (P.flatC (crF (ofA c 0 ks) (ofK c ks) (Int.tmod f 8))))
2 2)):Int)/\0=0/\dR (raysL (P.unC (P.flatC (crF (ofA c 0 ks) (ofK c ks) (Int.tmod f 8)))) 2 2) 0=dR (raysL (P.unC (P.flatC (crF (ofA c 0 ks) (ofK c ks) (Int.tmod f 8)))) 2 2) 0/\b_3.i+1=
b_3.i+1/\(∃(n:Nat),b_3.i+1=(↑n:Int)/\n<=4)/\4-Int.toNat (b_3.i+1)<4-Int.toNat b_3.i/\True)/\(zQ c ks f b_3.i=false->((↑(List.length (angR (raysL (P.unC (P.flatC (crF (ofA
c 0 ks) (ofK c ks) (Int.tmod f 8)))) (1+2*Int.tmod b_3.i 2) (1+Int.tdiv b_3.i 2*2)) (List.length (raysL (P.unC (P.flatC (crF (ofA c 0 ks) (ofK c ks) (Int.tmod f 8)))) (1+2*Int.tmod b_3.i
2) (1+Int.tdiv b_3.i 2*2))))):Int) !=0)=true/\((↑(List.length (angR (raysL (P.unC (P.flatC (crF (ofA c 0 ks) (ofK c ks) (Int.tmod f 8)))) (1+2*Int.tmod b_3.i 2) (1+Int.tdiv b_3.i 2*
2)) (List.length (raysL (P.unC (P.flatC (crF (ofA c 0 ks) (ofK c ks) (Int.tmod f 8)))) (1+2*Int.tmod b_3.i 2) (1+Int.tdiv b_3.i 2*2))))):Int) !=0)=true/\((↑(List.length (angR (raysL
(P.unC (P.flatC (crF (ofA c 0 ks) (ofK c ks) (Int.tmod f 8)))) (1+2*Int.tmod b_3.i 2) (1+Int.tdiv b_3.i 2*2)) (List.length (raysL (P.unC (P.flatC (crF (ofA c 0 ks) (ofK c ks) (Int.tmod f 8))))
(1+2*Int.tmod b_3.i 2) (1+Int.tdiv b_3.i 2*2))))):Int) !=0)=true/\((↑(List.length (angR (raysL (P.unC (P.flatC (crF (ofA c 0 ks) (ofK c ks) (Int.tmod f 8)))) (1+2*Int.tmod b_3.i 2)
(1+Int.tdiv b_3.i 2*2)) (List.length (raysL (P.unC (P.flatC (crF (ofA c 0 ks) (ofK c ks) (Int.tmod f 8)))) (1+2*Int.tmod b_3.i 2) (1+Int.tdiv b_3.i 2*2))))):Int) !=0)=true/\
((↑(List.length (angR (raysL (P.unC (P.flatC (crF (ofA c 0 ks) (ofK c ks) (Int.tmod f 8)))) (1+2*Int.tmod b_3.i 2) (1+Int.tdiv b_3.i 2*2)) (List.length (raysL (P.unC (P.flatC (crF (ofA c 0 ks)
(ofK c ks) (Int.tmod f 8)))) (1+2*Int.tmod b_3.i 2) (1+Int.tdiv b_3.i 2*2))))):Int) !=0)=true/\(!(↑(List.length (angR (raysL (P.unC (P.flatC (crF (ofA c 0 ks) (ofK c ks) (Int.tmod f
8)))) (1+2*Int.tmod b_3.i 2) (1+Int.tdiv b_3.i 2*2)) (List.length (raysL (P.unC (P.flatC (crF (ofA c 0 ks) (ofK c ks) (Int.tmod f 8)))) (1+2*Int.tmod b_3.i 2) (1+Int.tdiv b_3.i 2*
2))))):Int) !=2)=true/\(!(↑(List.length (angR (raysL (P.unC (P.flatC (crF (ofA c 0 ks) (ofK c ks) (Int.tmod f 8)))) (1+2*Int.tmod b_3.i 2) (1+Int.tdiv b_3.i 2*2)) (List.length (raysL
(P.unC (P.flatC (crF (ofA c 0 ks) (ofK c ks) (Int.tmod f 8)))) (1+2*Int.tmod b_3.i 2) (1+Int.tdiv b_3.i 2*2))))):Int) !=2)=true/\(!(↑(List.length (angR (raysL (P.unC (P.flatC (crF (ofA c
0 ks) (ofK c ks) (Int.tmod f 8)))) (1+2*Int.tmod b_3.i 2) (1+Int.tdiv b_3.i 2*2)) (List.length (raysL (P.unC (P.flatC (crF (ofA c 0 ks) (ofK c ks) (Int.tmod f 8)))) (1+2*Int.tmod b_3.i 2)
(1+Int.tdiv b_3.i 2*2))))):Int) !=2)=true/\ltb 0 (↑(List.length (angR (raysL (P.unC (P.flatC (crF (ofA c 0 ks) (ofK c ks) (Int.tmod f 8)))) (1+2*Int.tmod b_3.i 2) (1+Int.tdiv b_3.i 2*
2)) (List.length (raysL (P.unC (P.flatC (crF (ofA c 0 ks) (ofK c ks) (Int.tmod f 8)))) (1+2*Int.tmod b_3.i 2) (1+Int.tdiv b_3.i 2*2))))):Int)=true/\ltn 0 (Cont.size (Cont.ints IntKind.i64
(angR (raysL (P.unC (P.flatC (crF (ofA c 0 ks) (ofK c ks) (Int.tmod f 8)))) (1+2*Int.tmod b_3.i 2) (1+Int.tdiv b_3.i 2*2)) (List.length (raysL (P.unC (P.flatC (crF (ofA c 0 ks) (ofK c ks)
(Int.tmod f 8)))) (1+2*Int.tmod b_3.i 2) (1+Int.tdiv b_3.i 2*2))))))=true/\(!(↑(List.length (angR (raysL (P.unC (P.flatC (crF (ofA c 0 ks) (ofK c ks) (Int.tmod f 8)))) (1+2*Int.tmod
b_3.i 2) (1+Int.tdiv b_3.i 2*2)) (List.length (raysL (P.unC (P.flatC (crF (ofA c 0 ks) (ofK c ks) (Int.tmod f 8)))) (1+2*Int.tmod b_3.i 2) (1+Int.tdiv b_3.i 2*2))))):Int) !=2)=true/\
ltn 0 (Cont.size (Cont.ints IntKind.i64 (List.drop 0 (angR (raysL (P.unC (P.flatC (crF (ofA c 0 ks) (ofK c ks) (Int.tmod f 8)))) (1+2*Int.tmod b_3.i 2) (1+Int.tdiv b_3.i 2*2)) (List.length
(raysL (P.unC (P.flatC (crF (ofA c 0 ks) (ofK c ks) (Int.tmod f 8)))) (1+2*Int.tmod b_3.i 2) (1+Int.tdiv b_3.i 2*2)))))))=true/\(!(↑(List.length (angR (raysL (P.unC (P.flatC (crF (ofA c 0
ks) (ofK c ks) (Int.tmod f 8)))) (1+2*Int.tmod b_3.i 2) (1+Int.tdiv b_3.i 2*2)) (List.length (raysL (P.unC (P.flatC (crF (ofA c 0 ks) (ofK c ks) (Int.tmod f 8)))) (1+2*Int.tmod b_3.i 2) (1
+Int.tdiv b_3.i 2*2))))):Int) !=2)=true/\((↑(List.length (angR (raysL (P.unC (P.flatC (crF (ofA c 0 ks) (ofK c ks) (Int.tmod f 8)))) (1+2*Int.tmod b_3.i 2) (1+Int.tdiv b_3.i 2*2))
(List.length (raysL (P.unC (P.flatC (crF (ofA c 0 ks) (ofK c ks) (Int.tmod f 8)))) (1+2*Int.tmod b_3.i 2) (1+Int.tdiv b_3.i 2*2))))):Int) !=0)=true/\(!(↑(List.length (angR (raysL (P.unC
(P.flatC (crF (ofA c 0 ks) (ofK c ks) (Int.tmod f 8)))) (1+2*Int.tmod b_3.i 2) (1+Int.tdiv b_3.i 2*2)) (List.length (raysL (P.unC (P.flatC (crF (ofA c 0 ks) (ofK c ks) (Int.tmod f 8)))) (1+2
*Int.tmod b_3.i 2) (1+Int.tdiv b_3.i 2*2))))):Int) !=2)=true/\((↑(List.length (angR (raysL (P.unC (P.flatC (crF (ofA c 0 ks) (ofK c ks) (Int.tmod f 8)))) (1+2*Int.tmod b_3.i 2) (1+
Int.tdiv b_3.i 2*2)) (List.length (raysL (P.unC (P.flatC (crF (ofA c 0 ks) (ofK c ks) (Int.tmod f 8)))) (1+2*Int.tmod b_3.i 2) (1+Int.tdiv b_3.i 2*2))))):Int) !=0)=true/\(!List.getD
(List.drop 0 (angR (raysL (P.unC (P.flatC (crF (ofA c 0 ks) (ofK c ks) (Int.tmod f 8)))) (1+2*Int.tmod b_3.i 2) (1+Int.tdiv b_3.i 2*2)) (List.length (raysL (P.unC (P.flatC (crF (ofA c 0 ks)
(ofK c ks) (Int.tmod f 8)))) (1+2*Int.tmod b_3.i 2) (1+Int.tdiv b_3.i 2*2))))) 0 0 !=4)=true/\(!List.getD (List.drop 0 (angR (raysL (P.unC (P.flatC (crF (ofA c 0 ks) (ofK c ks) (Int.tmod f
8)))) (1+2*Int.tmod b_3.i 2) (1+Int.tdiv b_3.i 2*2)) (List.length (raysL (P.unC (P.flatC (crF (ofA c 0 ks) (ofK c ks) (Int.tmod f 8)))) (1+2*Int.tmod b_3.i 2) (1+Int.tdiv b_3.i 2*
2))))) 0 0 !=4)=true/\(!List.getD (List.drop 0 (angR (raysL (P.unC (P.flatC (crF (ofA c 0 ks) (ofK c ks) (Int.tmod f 8)))) (1+2*Int.tmod b_3.i 2) (1+Int.tdiv b_3.i 2*2)) (List.length
(raysL (P.unC (P.flatC (crF (ofA c 0 ks) (ofK c ks) (Int.tmod f 8)))) (1+2*Int.tmod b_3.i 2) (1+Int.tdiv b_3.i 2*2))))) 0 0 !=4)=true/\ltb 0 (↑(List.length (kndR (raysL (P.unC (P.flatC
(crF (ofA c 0 ks) (ofK c ks) (Int.tmod f 8)))) (1+2*Int.tmod b_3.i 2) (1+Int.tdiv b_3.i 2*2)))):Int)=true/\ltn 0 (Cont.size (Cont.ints IntKind.u8 (kndR (raysL (P.unC (P.flatC (crF (ofA c
0 ks) (ofK c ks) (Int.tmod f 8)))) (1+2*Int.tmod b_3.i 2) (1+Int.tdiv b_3.i 2*2)))))=true/\(!List.getD (List.drop 0 (angR (raysL (P.unC (P.flatC (crF (ofA c 0 ks) (ofK c ks) (Int.tmod f
8)))) (1+2*Int.tmod b_3.i 2) (1+Int.tdiv b_3.i 2*2)) (List.length (raysL (P.unC (P.flatC (crF (ofA c 0 ks) (ofK c ks) (Int.tmod f 8)))) (1+2*Int.tmod b_3.i 2) (1+Int.tdiv b_3.i 2*
2))))) 0 0 !=4)=true/\ltn 0 (Cont.size (Cont.ints IntKind.u8 (List.drop 0 (kndR (raysL (P.unC (P.flatC (crF (ofA c 0 ks) (ofK c ks) (Int.tmod f 8)))) (1+2*Int.tmod b_3.i 2) (1+Int.tdiv b_3.i
2*2))))))=true/\(!List.getD (List.drop 0 (angR (raysL (P.unC (P.flatC (crF (ofA c 0 ks) (ofK c ks) (Int.tmod f 8)))) (1+2*Int.tmod b_3.i 2) (1+Int.tdiv b_3.i 2*2)) (List.length (raysL
(P.unC (P.flatC (crF (ofA c 0 ks) (ofK c ks) (Int.tmod f 8)))) (1+2*Int.tmod b_3.i 2) (1+Int.tdiv b_3.i 2*2))))) 0 0 !=4)=true/\(!List.getD (List.drop 0 (angR (raysL (P.unC (P.flatC (crF
(ofA c 0 ks) (ofK c ks) (Int.tmod f 8)))) (1+2*Int.tmod b_3.i 2) (1+Int.tdiv b_3.i 2*2)) (List.length (raysL (P.unC (P.flatC (crF (ofA c 0 ks) (ofK c ks) (Int.tmod f 8)))) (1+2*Int.tmod
b_3.i 2) (1+Int.tdiv b_3.i 2*2))))) 0 0 !=4)=true/\(!List.getD (List.drop 0 (angR (raysL (P.unC (P.flatC (crF (ofA c 0 ks) (ofK c ks) (Int.tmod f 8)))) (1+2*Int.tmod b_3.i 2) (1+Int.tdiv
b_3.i 2*2)) (List.length (raysL (P.unC (P.flatC (crF (ofA c 0 ks) (ofK c ks) (Int.tmod f 8)))) (1+2*Int.tmod b_3.i 2) (1+Int.tdiv b_3.i 2*2))))) 0 0 !=4)=true/\ltb 1 (↑(List.length (kndR
(raysL (P.unC (P.flatC (crF (ofA c 0 ks) (ofK c ks) (Int.tmod f 8)))) (1+2*Int.tmod b_3.i 2) (1+Int.tdiv b_3.i 2*2)))):Int)=true/\ltn 0 (Cont.size (Cont.ints IntKind.u8 (kndR (raysL
(P.unC (P.flatC (crF (ofA c 0 ks) (ofK c ks) (Int.tmod f 8)))) (1+2*Int.tmod b_3.i 2) (1+Int.tdiv b_3.i 2*2)))))=true/\(!List.getD (List.drop 0 (angR (raysL (P.unC (P.flatC (crF (ofA c 0
ks) (ofK c ks) (Int.tmod f 8)))) (1+2*Int.tmod b_3.i 2) (1+Int.tdiv b_3.i 2*2)) (List.length (raysL (P.unC (P.flatC (crF (ofA c 0 ks) (ofK c ks) (Int.tmod f 8)))) (1+2*Int.tmod b_3.i 2) (1
+Int.tdiv b_3.i 2*2))))) 0 0 !=4)=true/\ltn 0 (Cont.size (Cont.ints IntKind.u8 (List.drop 1 (kndR (raysL (P.unC (P.flatC (crF (ofA c 0 ks) (ofK c ks) (Int.tmod f 8)))) (1+2*Int.tmod b_3.i
2) (1+Int.tdiv b_3.i 2*2))))))=true/\(!List.getD (List.drop 0 (angR (raysL (P.unC (P.flatC (crF (ofA c 0 ks) (ofK c ks) (Int.tmod f 8)))) (1+2*Int.tmod b_3.i 2) (1+Int.tdiv b_3.i 2*2))
(List.length (raysL (P.unC (P.flatC (crF (ofA c 0 ks) (ofK c ks) (Int.tmod f 8)))) (1+2*Int.tmod b_3.i 2) (1+Int.tdiv b_3.i 2*2))))) 0 0 !=4)=true/\((↑(List.length (angR (raysL (P.unC
(P.flatC (crF (ofA c 0 ks) (ofK c ks) (Int.tmod f 8)))) (1+2*Int.tmod b_3.i 2) (1+Int.tdiv b_3.i 2*2)) (List.length (raysL (P.unC (P.flatC (crF (ofA c 0 ks) (ofK c ks) (Int.tmod f 8)))) (1+2
*Int.tmod b_3.i 2) (1+Int.tdiv b_3.i 2*2))))):Int) !=0)=true/\(!List.getD (List.drop 0 (angR (raysL (P.unC (P.flatC (crF (ofA c 0 ks) (ofK c ks) (Int.tmod f 8)))) (1+2*Int.tmod b_3.i 2)
(1+Int.tdiv b_3.i 2*2)) (List.length (raysL (P.unC (P.flatC (crF (ofA c 0 ks) (ofK c ks) (Int.tmod f 8)))) (1+2*Int.tmod b_3.i 2) (1+Int.tdiv b_3.i 2*2))))) 0 0 !=4)=true/\
((↑(List.length (angR (raysL (P.unC (P.flatC (crF (ofA c 0 ks) (ofK c ks) (Int.tmod f 8)))) (1+2*Int.tmod b_3.i 2) (1+Int.tdiv b_3.i 2*2)) (List.length (raysL (P.unC (P.flatC (crF (ofA c 0 ks)
(ofK c ks) (Int.tmod f 8)))) (1+2*Int.tmod b_3.i 2) (1+Int.tdiv b_3.i 2*2))))):Int) !=0)=true/\(List.getD (List.drop 0 (kndR (raysL (P.unC (P.flatC (crF (ofA c 0 ks) (ofK c ks) (Int.tmod
f 8)))) (1+2*Int.tmod b_3.i 2) (1+Int.tdiv b_3.i 2*2)))) 0 0 !=List.getD (List.drop 1 (kndR (raysL (P.unC (P.flatC (crF (ofA c 0 ks) (ofK c ks) (Int.tmod f 8)))) (1+2*Int.tmod b_3.i 2) (1
+Int.tdiv b_3.i 2*2)))) 0 0)=false/\inR IntKind.i64 (b_3.i+1)=true/\1=1/\c=c/\l=l/\Cont.ints IntKind.u8 ks=Cont.ints IntKind.u8 ks/\List.length ks=List.length ks/\1=1/\
Cont.ints IntKind.i64 (ofA c 0 ks)=Cont.ints IntKind.i64 (ofA c 0 ks)/\List.length (ofA c 0 ks)=List.length (ofA c 0 ks)/\Cont.ints IntKind.u8 (ofK c ks)=Cont.ints IntKind.u8 (ofK c ks)/\
List.length (ofK c ks)=List.length (ofK c ks)/\1=1/\iI 2=2/\iI 2=2/\Cont.vals (P.flatC (crF (ofA c 0 ks) (ofK c ks) (Int.tmod f 8)))=Cont.vals (P.flatC (crF (ofA c 0 ks) (ofK c ks)
(Int.tmod f 8)))/\List.length (crF (ofA c 0 ks) (ofK c ks) (Int.tmod f 8))=List.length (crF (ofA c 0 ks) (ofK c ks) (Int.tmod f 8))/\List.length (crF (ofA c 0 ks) (ofK c ks) (Int.tmod f 8))=
List.length (crF (ofA c 0 ks) (ofK c ks) (Int.tmod f 8))/\8=8/\b.l=b.l/\1=1/\Cont.ints IntKind.i64 (angR (raysL (P.unC (P.flatC (crF (ofA c 0 ks) (ofK c ks) (Int.tmod f 8)))) 2 2)
(List.length (raysL (P.unC (P.flatC (crF (ofA c 0 ks) (ofK c ks) (Int.tmod f 8)))) 2 2)))=Cont.ints IntKind.i64 (angR (raysL (P.unC (P.flatC (crF (ofA c 0 ks) (ofK c ks) (Int.tmod f 8)))) 2 2)
(List.length (raysL (P.unC (P.flatC (crF (ofA c 0 ks) (ofK c ks) (Int.tmod f 8)))) 2 2)))/\List.length (angR (raysL (P.unC (P.flatC (crF (ofA c 0 ks) (ofK c ks) (Int.tmod f 8)))) 2 2) (List.length
(raysL (P.unC (P.flatC (crF (ofA c 0 ks) (ofK c ks) (Int.tmod f 8)))) 2 2)))=List.length (angR (raysL (P.unC (P.flatC (crF (ofA c 0 ks) (ofK c ks) (Int.tmod f 8)))) 2 2) (List.length (raysL (P.unC
(P.flatC (crF (ofA c 0 ks) (ofK c ks) (Int.tmod f 8)))) 2 2)))/\List.length (angR (raysL (P.unC (P.flatC (crF (ofA c 0 ks) (ofK c ks) (Int.tmod f 8)))) 2 2) (List.length (raysL (P.unC (P.flatC (crF
(ofA c 0 ks) (ofK c ks) (Int.tmod f 8)))) 2 2)))=List.length (angR (raysL (P.unC (P.flatC (crF (ofA c 0 ks) (ofK c ks) (Int.tmod f 8)))) 2 2) (List.length (raysL (P.unC (P.flatC (crF (ofA c 0 ks)
(ofK c ks) (Int.tmod f 8)))) 2 2)))/\Cont.ints IntKind.u8 (kndR (raysL (P.unC (P.flatC (crF (ofA c 0 ks) (ofK c ks) (Int.tmod f 8)))) 2 2))=Cont.ints IntKind.u8 (kndR (raysL (P.unC (P.flatC (crF
(ofA c 0 ks) (ofK c ks) (Int.tmod f 8)))) 2 2))/\List.length (kndR (raysL (P.unC (P.flatC (crF (ofA c 0 ks) (ofK c ks) (Int.tmod f 8)))) 2 2))=List.length (kndR (raysL (P.unC (P.flatC (crF (ofA c 0
ks) (ofK c ks) (Int.tmod f 8)))) 2 2))/\List.length (kndR (raysL (P.unC (P.flatC (crF (ofA c 0 ks) (ofK c ks) (Int.tmod f 8)))) 2 2))=List.length (kndR (raysL (P.unC (P.flatC (crF (ofA c 0 ks) (ofK
c ks) (Int.tmod f 8)))) 2 2))/\0=0/\0=0/\b.s=b.s/\b.m=b.m/\ltb b.i (↑(List.length (ofA c 0 ks)):Int)=ltb b.i (↑(List.length (ofA c 0 ks)):Int)/\ltb b_1.i 8=ltb b_1.i 8/\ltb
b_2.i (↑(List.length (raysL (P.unC (P.flatC (crF (ofA c 0 ks) (ofK c ks) (Int.tmod f 8)))) 2 2)):Int)=ltb b_2.i (↑(List.length (raysL (P.unC (P.flatC (crF (ofA c 0 ks) (ofK c ks) (Int.tmod f 8))))
2 2)):Int)/\0=0/\dR (raysL (P.unC (P.flatC (crF (ofA c 0 ks) (ofK c ks) (Int.tmod f 8)))) 2 2) 0=dR (raysL (P.unC (P.flatC (crF (ofA c 0 ks) (ofK c ks) (Int.tmod f 8)))) 2 2) 0/\b_3.i+1=
b_3.i+1/\(∃(n:Nat),b_3.i+1=(↑n:Int)/\n<=4)/\4-Int.toNat (b_3.i+1)<4-Int.toNat b_3.i/\True))/\(ltb b_3.i 4=false->(((↑(List.length (ofA c 0 ks)):Int)==0)=true->
(List.length (angR (raysL (P.unC (P.flatC (crF (ofA c 0 ks) (ofK c ks) (Int.tmod f 8)))) 2 2) (List.length (raysL (P.unC (P.flatC (crF (ofA c 0 ks) (ofK c ks) (Int.tmod f 8)))) 2 2)))=List.length
(angR (raysL (P.unC (P.flatC (crF (ofA c 0 ks) (ofK c ks) (Int.tmod f 8)))) 2 2) (List.length (raysL (P.unC (P.flatC (crF (ofA c 0 ks) (ofK c ks) (Int.tmod f 8)))) 2 2)))/\List.length (kndR (raysL
(P.unC (P.flatC (crF (ofA c 0 ks) (ofK c ks) (Int.tmod f 8)))) 2 2))=List.length (kndR (raysL (P.unC (P.flatC (crF (ofA c 0 ks) (ofK c ks) (Int.tmod f 8)))) 2 2))/\List.length (ofA c 0 ks)=
List.length (ofA c 0 ks)/\List.length (ofK c ks)=List.length (ofK c ks)/\List.length (angR (raysL (P.unC (P.flatC (crF (ofA c 0 ks) (ofK c ks) (Int.tmod f 8)))) 2 2) (List.length (raysL (P.unC
(P.flatC (crF (ofA c 0 ks) (ofK c ks) (Int.tmod f 8)))) 2 2)))=List.length (angR (raysL (P.unC (P.flatC (crF (ofA c 0 ks) (ofK c ks) (Int.tmod f 8)))) 2 2) (List.length (raysL (P.unC (P.flatC (crF
(ofA c 0 ks) (ofK c ks) (Int.tmod f 8)))) 2 2)))/\List.length (kndR (raysL (P.unC (P.flatC (crF (ofA c 0 ks) (ofK c ks) (Int.tmod f 8)))) 2 2))=List.length (kndR (raysL (P.unC (P.flatC (crF (ofA c
0 ks) (ofK c ks) (Int.tmod f 8)))) 2 2))/\List.length (angR (raysL (P.unC (P.flatC (crF (ofA c 0 ks) (ofK c ks) (Int.tmod f 8)))) 2 2) (List.length (raysL (P.unC (P.flatC (crF (ofA c 0 ks) (ofK c ks)
(Int.tmod f 8)))) 2 2)))=List.length (ofA c 0 ks)/\List.length (kndR (raysL (P.unC (P.flatC (crF (ofA c 0 ks) (ofK c ks) (Int.tmod f 8)))) 2 2))=List.length (ofK c ks)/\List.length (angR (raysL
(P.unC (P.flatC (crF (ofA c 0 ks) (ofK c ks) (Int.tmod f 8)))) 2 2) (List.length (raysL (P.unC (P.flatC (crF (ofA c 0 ks) (ofK c ks) (Int.tmod f 8)))) 2 2)))<1000000000000/\List.length (kndR (raysL
(P.unC (P.flatC (crF (ofA c 0 ks) (ofK c ks) (Int.tmod f 8)))) 2 2))<1000000000000)/\((eqB (angR (raysL (P.unC (P.flatC (crF (ofA c 0 ks) (ofK c ks) (Int.tmod f 8)))) 2 2) (List.length (raysL
(P.unC (P.flatC (crF (ofA c 0 ks) (ofK c ks) (Int.tmod f 8)))) 2 2))) (ofA c 0 ks)&&eqB (kndR (raysL (P.unC (P.flatC (crF (ofA c 0 ks) (ofK c ks) (Int.tmod f 8)))) 2 2)) (ofK c ks))=true->((dR
(raysL (P.unC (P.flatC (crF (ofA c 0 ks) (ofK c ks) (Int.tmod f 8)))) 2 2) 0==0)=true->true=true/\True)/\((dR (raysL (P.unC (P.flatC (crF (ofA c 0 ks) (ofK c ks) (Int.tmod f 8)))) 2 2) 0==
0)=false->false=true/\True))/\((eqB (angR (raysL (P.unC (P.flatC (crF (ofA c 0 ks) (ofK c ks) (Int.tmod f 8)))) 2 2) (List.length (raysL (P.unC (P.flatC (crF (ofA c 0 ks) (ofK c ks) (Int.tmod f
8)))) 2 2))) (ofA c 0 ks)&&eqB (kndR (raysL (P.unC (P.flatC (crF (ofA c 0 ks) (ofK c ks) (Int.tmod f 8)))) 2 2)) (ofK c ks))=false->false=true/\True))/\(((↑(List.length (ofA c 0 ks)):Int)
==0)=false->(List.length (ofA c 0 ks)=List.length (ofA c 0 ks)/\List.length (ofK c ks)=List.length (ofK c ks)/\List.length (ofA c 0 ks)<100000000000/\chk (ofA c 0 ks) (ofK c ks)=0)/\
(((bI (tOk (ofA c 0 ks) b.m) 0 1)==0)=true->(List.length (angR (raysL (P.unC (P.flatC (crF (ofA c 0 ks) (ofK c ks) (Int.tmod f 8)))) 2 2) (List.length (raysL (P.unC (P.flatC (crF (ofA c
0 ks) (ofK c ks) (Int.tmod f 8)))) 2 2)))=List.length (angR (raysL (P.unC (P.flatC (crF (ofA c 0 ks) (ofK c ks) (Int.tmod f 8)))) 2 2) (List.length (raysL (P.unC (P.flatC (crF (ofA c 0 ks) (ofK c
ks) (Int.tmod f 8)))) 2 2)))/\List.length (kndR (raysL (P.unC (P.flatC (crF (ofA c 0 ks) (ofK c ks) (Int.tmod f 8)))) 2 2))=List.length (kndR (raysL (P.unC (P.flatC (crF (ofA c 0 ks) (ofK c ks)
(Int.tmod f 8)))) 2 2))/\List.length (bLt (tOk (ofA c 0 ks) b.m) (rotL' (ofA c 0 ks) (Int.toNat b.m)))=List.length (bLt (tOk (ofA c 0 ks) b.m) (rotL' (ofA c 0 ks) (Int.toNat b.m)))/\List.length
(bLt (tOk (ofA c 0 ks) b.m) (rotL' (ofK c ks) (Int.toNat b.m)))=List.length (bLt (tOk (ofA c 0 ks) b.m) (rotL' (ofK c ks) (Int.toNat b.m)))/\List.length (angR (raysL (P.unC (P.flatC (crF (ofA c 0
ks) (ofK c ks) (Int.tmod f 8)))) 2 2) (List.length (raysL (P.unC (P.flatC (crF (ofA c 0 ks) (ofK c ks) (Int.tmod f 8)))) 2 2)))=List.length (angR (raysL (P.unC (P.flatC (crF (ofA c 0 ks) (ofK c ks)
(Int.tmod f 8)))) 2 2) (List.length (raysL (P.unC (P.flatC (crF (ofA c 0 ks) (ofK c ks) (Int.tmod f 8)))) 2 2)))/\List.length (kndR (raysL (P.unC (P.flatC (crF (ofA c 0 ks) (ofK c ks) (Int.tmod f
8)))) 2 2))=List.length (kndR (raysL (P.unC (P.flatC (crF (ofA c 0 ks) (ofK c ks) (Int.tmod f 8)))) 2 2))/\List.length (angR (raysL (P.unC (P.flatC (crF (ofA c 0 ks) (ofK c ks) (Int.tmod f 8)))) 2
2) (List.length (raysL (P.unC (P.flatC (crF (ofA c 0 ks) (ofK c ks) (Int.tmod f 8)))) 2 2)))=List.length (bLt (tOk (ofA c 0 ks) b.m) (rotL' (ofA c 0 ks) (Int.toNat b.m)))/\List.length (kndR (raysL
(P.unC (P.flatC (crF (ofA c 0 ks) (ofK c ks) (Int.tmod f 8)))) 2 2))=List.length (bLt (tOk (ofA c 0 ks) b.m) (rotL' (ofK c ks) (Int.toNat b.m)))/\List.length (angR (raysL (P.unC (P.flatC (crF (ofA
c 0 ks) (ofK c ks) (Int.tmod f 8)))) 2 2) (List.length (raysL (P.unC (P.flatC (crF (ofA c 0 ks) (ofK c ks) (Int.tmod f 8)))) 2 2)))<1000000000000/\List.length (kndR (raysL (P.unC (P.flatC (crF (ofA
c 0 ks) (ofK c ks) (Int.tmod f 8)))) 2 2))<1000000000000)/\((eqB (angR (raysL (P.unC (P.flatC (crF (ofA c 0 ks) (ofK c ks) (Int.tmod f 8)))) 2 2) (List.length (raysL (P.unC (P.flatC (crF (ofA c 0
ks) (ofK c ks) (Int.tmod f 8)))) 2 2))) (bLt (tOk (ofA c 0 ks) b.m) (rotL' (ofA c 0 ks) (Int.toNat b.m)))&&eqB (kndR (raysL (P.unC (P.flatC (crF (ofA c 0 ks) (ofK c ks) (Int.tmod f 8)))) 2 2)) (bLt
(tOk (ofA c 0 ks) b.m) (rotL' (ofK c ks) (Int.toNat b.m))))=true->((dR (raysL (P.unC (P.flatC (crF (ofA c 0 ks) (ofK c ks) (Int.tmod f 8)))) 2 2) 0==b.s)=true->true=true/\True)/\((dR
(raysL (P.unC (P.flatC (crF (ofA c 0 ks) (ofK c ks) (Int.tmod f 8)))) 2 2) 0==b.s)=false->false=true/\True))/\((eqB (angR (raysL (P.unC (P.flatC (crF (ofA c 0 ks) (ofK c ks) (Int.tmod f 8))))
2 2) (List.length (raysL (P.unC (P.flatC (crF (ofA c 0 ks) (ofK c ks) (Int.tmod f 8)))) 2 2))) (bLt (tOk (ofA c 0 ks) b.m) (rotL' (ofA c 0 ks) (Int.toNat b.m)))&&eqB (kndR (raysL (P.unC (P.flatC
(crF (ofA c 0 ks) (ofK c ks) (Int.tmod f 8)))) 2 2)) (bLt (tOk (ofA c 0 ks) b.m) (rotL' (ofK c ks) (Int.toNat b.m))))=false->false=true/\True))/\(((bI (tOk (ofA c 0 ks) b.m) 0 1)==0)
=false->false=true/\True))))))):=by kernel_rfl
end Go.Proofs.YtfafinkgmhkdmaaGreatDoor.X
