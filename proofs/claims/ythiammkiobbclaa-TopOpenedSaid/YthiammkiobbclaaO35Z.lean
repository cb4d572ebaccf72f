/-
 What is to be shown of the functions (made by a program).
-/
import Derived.Test.YthiammkiobbclaaD36Z
import Derived.KernelRfl
set_option maxRecDepth 1000000
set_option linter.unusedVariables false
namespace Go.Proofs.Ythiammkiobbclaa.X
open Go Go.Ab
open List IntKind

theorem ob_s53 (a k o:List Int):fnP (U53) G 10000 fe53 (.r [] 0 (.r [] 29 (.r [] 0 (.lit (.r [] 1 (.ff (.r [] 0 (.lp (lsA 29 o) [] [] (fun b=>(.r [] 0 (.cnd (.r [] 0 (.r [] 0 (.ff (.r [] 0 .nil)))) (.r [] 3 .nil)))))))))))) ([.agg [.imm (.ints .i64 a) a.length none,.imm (.ints .u8 k) k.length none],immN .i64 o]) ([folV a k,.int .i64 0]) ([])=(
 (length a=length a∧length k=length k∧okStrip a k)∧((↑(length o):Int) !=(↑(length a):Int))=false∧1=1∧qs i64 a (qs u8 k (1=1∧1=1∧qs i64 a (qs u8 k (qs i64 (raysL
 a) (qx (length a+1) (qs i64 o (0=0∧0=0∧ql o (iI 0=0∧(∃(m:Nat),0=(↑m:Int)∧m≤length o)∧∀(b:L83),(∃(m:Nat),b.i=(↑m:Int)∧m≤length o)→(ltb b.i
 (↑(length o):Int)=true→(length o=length o∧length o<1000000000000)∧(!memB o b.i)=false∧inR i64 (b.i+1)=true∧1=1∧qs i64 a (qs u8 k (1=1∧1=1∧qs i64 a (qs u8
 k (qs i64 (raysL a) (qx (length a+1) (qs i64 o (0=0∧0=0∧ql o (b.i+1=b.i+1∧(∃(m:Nat),b.i+1=(↑m:Int)∧m≤length o)∧length o-Int.toNat (b.i+1)<length o-
 Int.toNat b.i∧True)))))))))∧(ltb b.i (↑(length o):Int)=false→qs i64 a (qs u8 k (qs i64 (raysL a) (qx (length a+1) (iI 0=0∧True)))))))))))))):=by kernel_rfl

theorem ob_y_70a (a k r:List Int)(x0 x1 x2 x3 x4 x5 x6 x7 i t x:Int)(b:Bool):fnY (U70) G 10000 (9002) (.r [] 0 (.br (x !=i) (.r [yO 964,yO 965,yO 966,yO 967,(968,.on,Dr.val [AV.int i64 (gR [x0,x1,x2,x3,x4,x5,x6,x7] x)]),yO 969,yO 970,yO 971,yO 972,yO 973,yO 974,(975,.on,Dr.val [AV.int i64 (gR [x0,x1,x2,x3,x4,x5,x6,x7] (x+1))]),yO 976,yO 977,(978,.auto,Dr.pk true)] 1342259221 (.ff .nil)) (.r [(964,.off,Dr.plain),(965,.off,Dr.plain),(966,.off,Dr.plain),(967,.off,Dr.plain),(968,.off,Dr.plain),(969,.off,Dr.plain),(970,.off,Dr.plain),(971,.off,Dr.plain),(972,.off,Dr.plain),(973,.off,Dr.plain),(974,.off,Dr.plain),(975,.off,Dr.plain),(976,.off,Dr.plain),(977,.off,Dr.plain),(978,.auto,Dr.pk false)] 163841 (.lit .nil)))) ([.int .i64 x]) (sH70 9002 a k r x0 x1 x2 x3 x4 x5 x6 x7 i t b) (true) ([])=(
 ((x !=i)=true→(x !=i)=true∧(x !=i)=true∧(x !=i)=true∧(x !=i)=true∧leb 0 x=true∧ltb x 32=true∧(x !=i)=true∧[AV.int i64 x0,AV.int i64 x1,AV.int i64 x2,
 AV.int i64 x3,AV.int i64 x4,AV.int i64 x5,AV.int i64 x6,AV.int i64 x7,AV.int i64 0,AV.int i64 0,AV.int i64 0,AV.int i64 0,AV.int i64 0,AV.int i64 0,AV.int i64 0,AV.int i64 0,
 AV.int i64 0,AV.int i64 0,AV.int i64 0,AV.int i64 0,AV.int i64 0,AV.int i64 0,AV.int i64 0,AV.int i64 0,AV.int i64 0,AV.int i64 0,AV.int i64 0,AV.int i64 0,AV.int i64 0,AV.int
 i64 0,AV.int i64 0,AV.int i64 0][Int.toNat x]? =some (AV.int i64 (gR [x0,x1,x2,x3,x4,x5,x6,x7] x))∧(x !=i)=true∧(0≤i∧i<7)∧(x !=i)=true∧(x !=i)=true∧(x !=
 i)=true∧(x !=i)=true∧inR i64 (x+1)=true∧(x !=i)=true∧leb 0 (x+1)=true∧ltb (x+1) 32=true∧(x !=i)=true∧[AV.int i64 x0,AV.int i64 x1,AV.int i64 x2,AV.int
 i64 x3,AV.int i64 x4,AV.int i64 x5,AV.int i64 x6,AV.int i64 x7,AV.int i64 0,AV.int i64 0,AV.int i64 0,AV.int i64 0,AV.int i64 0,AV.int i64 0,AV.int i64 0,AV.int i64 0,AV.int i64
 0,AV.int i64 0,AV.int i64 0,AV.int i64 0,AV.int i64 0,AV.int i64 0,AV.int i64 0,AV.int i64 0,AV.int i64 0,AV.int i64 0,AV.int i64 0,AV.int i64 0,AV.int i64 0,AV.int i64 0,
 AV.int i64 0,AV.int i64 0][Int.toNat (x+1)]? =some (AV.int i64 (gR [x0,x1,x2,x3,x4,x5,x6,x7] (x+1)))∧(x !=i)=true∧(0≤i∧i<7)∧(x !=i)=true∧(x !=i)=true∧
 (!btS [x0,x1,x2,x3,x4,x5,x6,x7] i (gR [x0,x1,x2,x3,x4,x5,x6,x7] x)==btS [x0,x1,x2,x3,x4,x5,x6,x7] i (gR [x0,x1,x2,x3,x4,x5,x6,x7] (x+1)))=false∧1=1∧i
 =i∧1=1∧false=false∧1=1∧x0=x0∧x1=x1∧x2=x2∧x3=x3∧x4=x4∧x5=x5∧x6=x6∧x7=x7∧iI 0=0∧iI 0=0∧iI 0=0∧iI 0=0∧iI 0=0∧iI 0=0∧iI 0=
 0∧iI 0=0∧iI 0=0∧iI 0=0∧iI 0=0∧iI 0=0∧iI 0=0∧iI 0=0∧iI 0=0∧iI 0=0∧iI 0=0∧iI 0=0∧iI 0=0∧iI 0=0∧iI 0=0∧iI 0=0∧iI 0=0∧iI 0=0∧
 1=1∧qs i64 a (qs u8 k (qs i64 r (0=0∧(none:Option Ex)=none∧83=83∧[61]=[61]∧as70=as70∧bd70=bd70∧0=0∧0=0∧0=0∧ql k (i=i∧0=0∧false=false∧
 Cont.vals [AV.imm (Cont.ints i64 a) (length a) none,AV.imm (Cont.ints u8 k) (length k) none,AV.imm (Cont.ints i64 r) (length r) none]=Cont.vals [AV.imm (Cont.ints i64 a) (length a) none,
 AV.imm (Cont.ints u8 k) (length k) none,AV.imm (Cont.ints i64 r) (length r) none]∧Cont.vals [AV.int i64 t]=Cont.vals [AV.int i64 t]∧Cont.vals [AV.bool b]=Cont.vals [AV.bool b]∧
 true=true∧True)))))∧((x !=i)=false→(!x !=i)=true∧(!x !=i)=true∧(!x !=i)=true∧(!x !=i)=true∧(!x !=i)=true∧(!x !=i)=true∧(!x !=i)=true∧(!x !=i)=
 true∧(!x !=i)=true∧(!x !=i)=true∧(!x !=i)=true∧(!x !=i)=true∧(!x !=i)=true∧(!x !=i)=true∧(!x !=i)=true∧1=1∧i=i∧1=1∧false=false∧1=1∧x0
 =x0∧x1=x1∧x2=x2∧x3=x3∧x4=x4∧x5=x5∧x6=x6∧x7=x7∧iI 0=0∧iI 0=0∧iI 0=0∧iI 0=0∧iI 0=0∧iI 0=0∧iI 0=0∧iI 0=0∧iI 0=0∧iI 0=0∧iI
 0=0∧iI 0=0∧iI 0=0∧iI 0=0∧iI 0=0∧iI 0=0∧iI 0=0∧iI 0=0∧iI 0=0∧iI 0=0∧iI 0=0∧iI 0=0∧iI 0=0∧iI 0=0∧1=1∧qs i64 a (qs u8 k (qs i64 r (0
 =0∧(none:Option Ex)=none∧83=83∧[61]=[61]∧as70=as70∧bd70=bd70∧0=0∧0=0∧0=0∧ql k (i=i∧0=0∧false=false∧Cont.vals [AV.imm (Cont.ints i64 a)
 (length a) none,AV.imm (Cont.ints u8 k) (length k) none,AV.imm (Cont.ints i64 r) (length r) none]=Cont.vals [AV.imm (Cont.ints i64 a) (length a) none,AV.imm (Cont.ints u8 k) (length k)
 none,AV.imm (Cont.ints i64 r) (length r) none]∧Cont.vals [AV.int i64 t]=Cont.vals [AV.int i64 t]∧Cont.vals [AV.bool b]=Cont.vals [AV.bool b]∧true=true∧True)))))):=by kernel_rfl

theorem ob_y_70b (a k r:List Int)(x0 x1 x2 x3 x4 x5 x6 x7 i t x:Int)(b:Bool):fnY (U70) G 10000 (9003) (.r [] 0 (.br (x !=i) (.r [yO 964,yO 965,yO 966,yO 967,(968,.on,Dr.val [AV.int i64 (gR [x0,x1,x2,x3,x4,x5,x6,x7] x)]),yO 969,yO 970,yO 971,yO 972,yO 973,yO 974,(975,.on,Dr.val [AV.int i64 (gR [x0,x1,x2,x3,x4,x5,x6,x7] (x+1))]),yO 976,yO 977,(978,.auto,Dr.pk true)] 1342259221 (.ff .nil)) (.r [(964,.off,Dr.plain),(965,.off,Dr.plain),(966,.off,Dr.plain),(967,.off,Dr.plain),(968,.off,Dr.plain),(969,.off,Dr.plain),(970,.off,Dr.plain),(971,.off,Dr.plain),(972,.off,Dr.plain),(973,.off,Dr.plain),(974,.off,Dr.plain),(975,.off,Dr.plain),(976,.off,Dr.plain),(977,.off,Dr.plain),(978,.auto,Dr.pk false)] 163841 (.lit .nil)))) ([.int .i64 x]) (sH70 9003 a k r x0 x1 x2 x3 x4 x5 x6 x7 i t b) (true) (wsZ a k r x0 x1 x2 x3 x4 x5 x6 x7 i t b false)=(
 ((x !=i)=true→(x !=i)=true∧(x !=i)=true∧(x !=i)=true∧(x !=i)=true∧leb 0 x=true∧ltb x 32=true∧(x !=i)=true∧[AV.int i64 x0,AV.int i64 x1,AV.int i64 x2,
 AV.int i64 x3,AV.int i64 x4,AV.int i64 x5,AV.int i64 x6,AV.int i64 x7,AV.int i64 0,AV.int i64 0,AV.int i64 0,AV.int i64 0,AV.int i64 0,AV.int i64 0,AV.int i64 0,AV.int i64 0,
 AV.int i64 0,AV.int i64 0,AV.int i64 0,AV.int i64 0,AV.int i64 0,AV.int i64 0,AV.int i64 0,AV.int i64 0,AV.int i64 0,AV.int i64 0,AV.int i64 0,AV.int i64 0,AV.int i64 0,AV.int
 i64 0,AV.int i64 0,AV.int i64 0][Int.toNat x]? =some (AV.int i64 (gR [x0,x1,x2,x3,x4,x5,x6,x7] x))∧(x !=i)=true∧(0≤i∧i<7)∧(x !=i)=true∧(x !=i)=true∧(x !=
 i)=true∧(x !=i)=true∧inR i64 (x+1)=true∧(x !=i)=true∧leb 0 (x+1)=true∧ltb (x+1) 32=true∧(x !=i)=true∧[AV.int i64 x0,AV.int i64 x1,AV.int i64 x2,AV.int
 i64 x3,AV.int i64 x4,AV.int i64 x5,AV.int i64 x6,AV.int i64 x7,AV.int i64 0,AV.int i64 0,AV.int i64 0,AV.int i64 0,AV.int i64 0,AV.int i64 0,AV.int i64 0,AV.int i64 0,AV.int i64
 0,AV.int i64 0,AV.int i64 0,AV.int i64 0,AV.int i64 0,AV.int i64 0,AV.int i64 0,AV.int i64 0,AV.int i64 0,AV.int i64 0,AV.int i64 0,AV.int i64 0,AV.int i64 0,AV.int i64 0,
 AV.int i64 0,AV.int i64 0][Int.toNat (x+1)]? =some (AV.int i64 (gR [x0,x1,x2,x3,x4,x5,x6,x7] (x+1)))∧(x !=i)=true∧(0≤i∧i<7)∧(x !=i)=true∧(x !=i)=true∧
 (!btS [x0,x1,x2,x3,x4,x5,x6,x7] i (gR [x0,x1,x2,x3,x4,x5,x6,x7] x)==btS [x0,x1,x2,x3,x4,x5,x6,x7] i (gR [x0,x1,x2,x3,x4,x5,x6,x7] (x+1)))=false∧1=1∧i
 =i∧1=1∧false=false∧1=1∧x0=x0∧x1=x1∧x2=x2∧x3=x3∧x4=x4∧x5=x5∧x6=x6∧x7=x7∧iI 0=0∧iI 0=0∧iI 0=0∧iI 0=0∧iI 0=0∧iI 0=0∧iI 0=
 0∧iI 0=0∧iI 0=0∧iI 0=0∧iI 0=0∧iI 0=0∧iI 0=0∧iI 0=0∧iI 0=0∧iI 0=0∧iI 0=0∧iI 0=0∧iI 0=0∧iI 0=0∧iI 0=0∧iI 0=0∧iI 0=0∧iI 0=0∧
 1=1∧qs i64 a (qs u8 k (qs i64 r (0=0∧(none:Option Ex)=none∧83=83∧[61]=[61]∧as70=as70∧bd70=bd70∧0=0∧0=0∧0=0∧ql k (i=i∧0=0∧false=false∧
 Cont.vals [AV.imm (Cont.ints i64 a) (length a) none,AV.imm (Cont.ints u8 k) (length k) none,AV.imm (Cont.ints i64 r) (length r) none]=Cont.vals [AV.imm (Cont.ints i64 a) (length a) none,
 AV.imm (Cont.ints u8 k) (length k) none,AV.imm (Cont.ints i64 r) (length r) none]∧Cont.vals [AV.int i64 t]=Cont.vals [AV.int i64 t]∧Cont.vals [AV.bool b]=Cont.vals [AV.bool b]∧
 true=true∧True)))))∧((x !=i)=false→(!x !=i)=true∧(!x !=i)=true∧(!x !=i)=true∧(!x !=i)=true∧(!x !=i)=true∧(!x !=i)=true∧(!x !=i)=true∧(!x !=i)=
 true∧(!x !=i)=true∧(!x !=i)=true∧(!x !=i)=true∧(!x !=i)=true∧(!x !=i)=true∧(!x !=i)=true∧(!x !=i)=true∧1=1∧i=i∧1=1∧false=false∧1=1∧x0
 =x0∧x1=x1∧x2=x2∧x3=x3∧x4=x4∧x5=x5∧x6=x6∧x7=x7∧iI 0=0∧iI 0=0∧iI 0=0∧iI 0=0∧iI 0=0∧iI 0=0∧iI 0=0∧iI 0=0∧iI 0=0∧iI 0=0∧iI
 0=0∧iI 0=0∧iI 0=0∧iI 0=0∧iI 0=0∧iI 0=0∧iI 0=0∧iI 0=0∧iI 0=0∧iI 0=0∧iI 0=0∧iI 0=0∧iI 0=0∧iI 0=0∧1=1∧qs i64 a (qs u8 k (qs i64 r (0
 =0∧(none:Option Ex)=none∧83=83∧[61]=[61]∧as70=as70∧bd70=bd70∧0=0∧0=0∧0=0∧ql k (i=i∧0=0∧false=false∧Cont.vals [AV.imm (Cont.ints i64 a)
 (length a) none,AV.imm (Cont.ints u8 k) (length k) none,AV.imm (Cont.ints i64 r) (length r) none]=Cont.vals [AV.imm (Cont.ints i64 a) (length a) none,AV.imm (Cont.ints u8 k) (length k)
 none,AV.imm (Cont.ints i64 r) (length r) none]∧Cont.vals [AV.int i64 t]=Cont.vals [AV.int i64 t]∧Cont.vals [AV.bool b]=Cont.vals [AV.bool b]∧true=true∧True)))))):=by kernel_rfl

theorem ob_y_70c (a k r:List Int)(x0 x1 x2 x3 x4 x5 x6 x7 i t x:Int)(b:Bool):fnY (U70) G 10000 (9003) (.r [] 0 (.br (x !=i) (.r [yO 964,yO 965,yO 966,yO 967,(968,.on,Dr.val [AV.int i64 (gR [x0,x1,x2,x3,x4,x5,x6,x7] x)]),yO 969,yO 970,yO 971,yO 972,yO 973,yO 974,(975,.on,Dr.val [AV.int i64 (gR [x0,x1,x2,x3,x4,x5,x6,x7] (x+1))]),yO 976,yO 977,(978,.auto,Dr.pk true)] 1342259221 (.tt (.r [] 1 .nil))) (.r [(964,.off,Dr.plain),(965,.off,Dr.plain),(966,.off,Dr.plain),(967,.off,Dr.plain),(968,.off,Dr.plain),(969,.off,Dr.plain),(970,.off,Dr.plain),(971,.off,Dr.plain),(972,.off,Dr.plain),(973,.off,Dr.plain),(974,.off,Dr.plain),(975,.off,Dr.plain),(976,.off,Dr.plain),(977,.off,Dr.plain),(978,.auto,Dr.pk false)] 163841 (.lit .nil)))) ([.int .i64 x]) (sH70 9003 a k r x0 x1 x2 x3 x4 x5 x6 x7 i t b) (false) (wsZ a k r x0 x1 x2 x3 x4 x5 x6 x7 i t b true)=(
 ((x !=i)=true→(x !=i)=true∧(x !=i)=true∧(x !=i)=true∧(x !=i)=true∧leb 0 x=true∧ltb x 32=true∧(x !=i)=true∧[AV.int i64 x0,AV.int i64 x1,AV.int i64 x2,
 AV.int i64 x3,AV.int i64 x4,AV.int i64 x5,AV.int i64 x6,AV.int i64 x7,AV.int i64 0,AV.int i64 0,AV.int i64 0,AV.int i64 0,AV.int i64 0,AV.int i64 0,AV.int i64 0,AV.int i64 0,
 AV.int i64 0,AV.int i64 0,AV.int i64 0,AV.int i64 0,AV.int i64 0,AV.int i64 0,AV.int i64 0,AV.int i64 0,AV.int i64 0,AV.int i64 0,AV.int i64 0,AV.int i64 0,AV.int i64 0,AV.int
 i64 0,AV.int i64 0,AV.int i64 0][Int.toNat x]? =some (AV.int i64 (gR [x0,x1,x2,x3,x4,x5,x6,x7] x))∧(x !=i)=true∧(0≤i∧i<7)∧(x !=i)=true∧(x !=i)=true∧(x !=
 i)=true∧(x !=i)=true∧inR i64 (x+1)=true∧(x !=i)=true∧leb 0 (x+1)=true∧ltb (x+1) 32=true∧(x !=i)=true∧[AV.int i64 x0,AV.int i64 x1,AV.int i64 x2,AV.int
 i64 x3,AV.int i64 x4,AV.int i64 x5,AV.int i64 x6,AV.int i64 x7,AV.int i64 0,AV.int i64 0,AV.int i64 0,AV.int i64 0,AV.int i64 0,AV.int i64 0,AV.int i64 0,AV.int i64 0,AV.int i64
 0,AV.int i64 0,AV.int i64 0,AV.int i64 0,AV.int i64 0,AV.int i64 0,AV.int i64 0,AV.int i64 0,AV.int i64 0,AV.int i64 0,AV.int i64 0,AV.int i64 0,AV.int i64 0,AV.int i64 0,
 AV.int i64 0,AV.int i64 0][Int.toNat (x+1)]? =some (AV.int i64 (gR [x0,x1,x2,x3,x4,x5,x6,x7] (x+1)))∧(x !=i)=true∧(0≤i∧i<7)∧(x !=i)=true∧(x !=i)=true∧
 (!btS [x0,x1,x2,x3,x4,x5,x6,x7] i (gR [x0,x1,x2,x3,x4,x5,x6,x7] x)==btS [x0,x1,x2,x3,x4,x5,x6,x7] i (gR [x0,x1,x2,x3,x4,x5,x6,x7] (x+1)))=true∧1=1∧i=
 i∧1=1∧true=true∧1=1∧x0=x0∧x1=x1∧x2=x2∧x3=x3∧x4=x4∧x5=x5∧x6=x6∧x7=x7∧iI 0=0∧iI 0=0∧iI 0=0∧iI 0=0∧iI 0=0∧iI 0=0∧iI 0=0∧
 iI 0=0∧iI 0=0∧iI 0=0∧iI 0=0∧iI 0=0∧iI 0=0∧iI 0=0∧iI 0=0∧iI 0=0∧iI 0=0∧iI 0=0∧iI 0=0∧iI 0=0∧iI 0=0∧iI 0=0∧iI 0=0∧iI 0=0∧1=
 1∧qs i64 a (qs u8 k (qs i64 r (2=2∧qx (some (Ex.exit 0)) (83=83∧[61]=[61]∧as70=as70∧bd70=bd70∧0=0∧0=0∧0=0∧ql k (i=i∧0=0∧false=false∧Cont.vals
 [AV.imm (Cont.ints i64 a) (length a) none,AV.imm (Cont.ints u8 k) (length k) none,AV.imm (Cont.ints i64 r) (length r) none]=Cont.vals [AV.imm (Cont.ints i64 a) (length a) none,AV.imm
 (Cont.ints u8 k) (length k) none,AV.imm (Cont.ints i64 r) (length r) none]∧Cont.vals [AV.int i64 t]=Cont.vals [AV.int i64 t]∧Cont.vals [AV.bool b]=Cont.vals [AV.bool b]∧false=
 false∧True))))))∧((x !=i)=false→(!x !=i)=true∧(!x !=i)=true∧(!x !=i)=true∧(!x !=i)=true∧(!x !=i)=true∧(!x !=i)=true∧(!x !=i)=true∧(!x !=i)=true
 ∧(!x !=i)=true∧(!x !=i)=true∧(!x !=i)=true∧(!x !=i)=true∧(!x !=i)=true∧(!x !=i)=true∧(!x !=i)=true∧1=1∧i=i∧1=1∧false=true∧1=1∧x0=x0
 ∧x1=x1∧x2=x2∧x3=x3∧x4=x4∧x5=x5∧x6=x6∧x7=x7∧iI 0=0∧iI 0=0∧iI 0=0∧iI 0=0∧iI 0=0∧iI 0=0∧iI 0=0∧iI 0=0∧iI 0=0∧iI 0=0∧iI 0=0
 ∧iI 0=0∧iI 0=0∧iI 0=0∧iI 0=0∧iI 0=0∧iI 0=0∧iI 0=0∧iI 0=0∧iI 0=0∧iI 0=0∧iI 0=0∧iI 0=0∧iI 0=0∧1=1∧qs i64 a (qs u8 k (qs i64 r (2=0∧
 some (Ex.exit 0)=none∧83=83∧[61]=[61]∧as70=as70∧bd70=bd70∧0=0∧0=0∧0=0∧ql k (i=i∧0=0∧false=false∧Cont.vals [AV.imm (Cont.ints i64 a) (length a)
 none,AV.imm (Cont.ints u8 k) (length k) none,AV.imm (Cont.ints i64 r) (length r) none]=Cont.vals [AV.imm (Cont.ints i64 a) (length a) none,AV.imm (Cont.ints u8 k) (length k) none,
 AV.imm (Cont.ints i64 r) (length r) none]∧Cont.vals [AV.int i64 t]=Cont.vals [AV.int i64 t]∧Cont.vals [AV.bool b]=Cont.vals [AV.bool b]∧true=false∧True)))))):=by kernel_rfl

theorem ob_d_89n (a k r:List Int)(x0 x1 x2 x3 x4 x5 x6 x7 i t:Int)(b:Bool):fnD (USn a k r x0 x1 x2 x3 x4 x5 x6 x7 i t b) G 10000 (fe89) (.r [] 1 (.lp (l89n a k r x0 x1 x2 x3 x4 x5 x6 x7 i t b) [] [] (fun b_1=>(.r [] 0 (.cnd (.r [] 0 (.br (gR r (b_1.i+1)==t) (.br (ltb t (gR r b_1.i)==b) (.r [yO 265,yO 266,yO 267,yO 268,yO 269,yO 270,yO 271,yO 272,yO 273,(274,.auto,Dr.pk true),yO 276,yO 277,(278,.on,Dr.heap),yO 279,(280,.auto,Dr.pk true)] 10781721153 (.lit (.r [] 0 .nil))) (.r [yO 265,yO 266,yO 267,yO 268,yO 269,yO 270,yO 271,yO 272,yO 273,(274,.auto,Dr.pk true),(276,.off,Dr.plain),(277,.off,Dr.plain),(278,.off,Dr.plain),(279,.off,Dr.plain),(280,.auto,Dr.pk false)] 5413012033 (.lit (.r [] 0 .nil)))) (.r [(265,.off,Dr.plain),(266,.off,Dr.plain),(267,.off,Dr.plain),(268,.off,Dr.plain),(269,.off,Dr.plain),(270,.off,Dr.plain),(271,.off,Dr.plain),(272,.off,Dr.plain),(273,.off,Dr.plain),(274,.auto,Dr.pk false),(276,.off,Dr.plain),(277,.off,Dr.plain),(278,.off,Dr.plain),(279,.off,Dr.plain),(280,.auto,Dr.pk false)] 66912321 (.lit (.r [] 0 .nil))))) .nil))))) ([.yld 9002,.iptr (conF a k r),.iptr (.vals [.int .i64 t]),.iptr (.vals [.bool b])]) (sH70 9002 a k r x0 x1 x2 x3 x4 x5 x6 x7 i t b) ([]) ([])=(
 1=1∧i=i∧1=1∧false=false∧1=1∧x0=x0∧x1=x1∧x2=x2∧x3=x3∧x4=x4∧x5=x5∧x6=x6∧x7=x7∧iI 0=0∧iI 0=0∧iI 0=0∧iI 0=0∧iI 0=0∧iI 0=
 0∧iI 0=0∧iI 0=0∧iI 0=0∧iI 0=0∧iI 0=0∧iI 0=0∧iI 0=0∧iI 0=0∧iI 0=0∧iI 0=0∧iI 0=0∧iI 0=0∧iI 0=0∧iI 0=0∧iI 0=0∧iI 0=0∧iI 0=0∧
 iI 0=0∧1=1∧qs i64 a (qs u8 k (qs i64 r (0=0∧(none:Option Ex)=none∧83=83∧[61]=[61]∧as70=as70∧bd70=bd70∧0=0∧0=0∧0=0∧ql k (i=i∧0=0∧false=
 false∧Cont.vals [AV.imm (Cont.ints i64 a) (length a) none,AV.imm (Cont.ints u8 k) (length k) none,AV.imm (Cont.ints i64 r) (length r) none]=Cont.vals [AV.imm (Cont.ints i64 a) (length
 a) none,AV.imm (Cont.ints u8 k) (length k) none,AV.imm (Cont.ints i64 r) (length r) none]∧Cont.vals [AV.int i64 t]=Cont.vals [AV.int i64 t]∧Cont.vals [AV.bool b]=Cont.vals [AV.bool
 b]∧Cont.vals [AV.imm (Cont.ints i64 a) (length a) none,AV.imm (Cont.ints u8 k) (length k) none,AV.imm (Cont.ints i64 r) (length r) none]=Cont.vals [AV.imm (Cont.ints i64 a) (length a)
 none,AV.imm (Cont.ints u8 k) (length k) none,AV.imm (Cont.ints i64 r) (length r) none]∧Cont.vals [AV.int i64 t]=Cont.vals [AV.int i64 t]∧Cont.vals [AV.bool b]=Cont.vals [AV.bool b]
 ∧ql k (iI 0=0∧(∃(m:Nat),0=(↑m:Int)∧m≤length k)∧∀(b_1:L83),(fun(zz2:Prop)=>(fun(zz1:Bool)=>(fun(zz0:Bool)=>(fun(u0:Int)=>(fun(zz3:Bool)=>(∃(m
 :Nat),b_1.i=(↑m:Int)∧m≤length k)→(ltb b_1.i (↑(length k):Int)=true→((gR r (b_1.i+1)==t)=true→((ltb t (gR r b_1.i)==b)=true→inR i64 (b_1.i+1)=true∧rd i64
 r (b_1.i+1) (zz0=true∧zz0=true∧zz0=true∧zz0=true∧leb 0 b_1.i=true∧ltb b_1.i (↑(length r):Int)=true∧ltn 0 (Cont.size (Cont.ints i64 r))=true∧zz0=true∧ltn 0
 (Cont.size (Cont.ints i64 (drop (Int.toNat b_1.i) r)))=true∧zz0=true∧zz0=true∧zz0=true∧zz0=true∧zz0=true∧(ltb t u0==b)=true∧(ltb t u0==b)=true∧(ltb t u0
 ==b)=true∧([(321,HO.blk (Blk.mk (Cont.cells [AV.int i64 i]) 1 1 none (some false) true true)),(128,HO.blk (Blk.mk (Cont.cells [AV.bool false]) 1 1 none (some false) true true)),(65,
 HO.blk (Blk.mk (Cont.cells [AV.int i64 x0,AV.int i64 x1,AV.int i64 x2,AV.int i64 x3,AV.int i64 x4,AV.int i64 x5,AV.int i64 x6,AV.int i64 x7,AV.int i64 0,AV.int i64 0,AV.int i64 0,
 AV.int i64 0,AV.int i64 0,AV.int i64 0,AV.int i64 0,AV.int i64 0,AV.int i64 0,AV.int i64 0,AV.int i64 0,AV.int i64 0,AV.int i64 0,AV.int i64 0,AV.int i64 0,AV.int i64 0,AV.int
 i64 0,AV.int i64 0,AV.int i64 0,AV.int i64 0,AV.int i64 0,AV.int i64 0,AV.int i64 0,AV.int i64 0]) 32 1 none (some false) true true)),(64,HO.blk (Blk.mk (Cont.cells [AV.imm
 (Cont.ints i64 a) (length a) none,AV.imm (Cont.ints u8 k) (length k) none,AV.imm (Cont.ints i64 r) (length r) none]) 3 1 none (some false) true true)),(9002,HO.loop (LoopS.mk 0 none [(2,
 AV.ptr 64 0),(3,AV.ptr 65 0),(5,AV.ptr 128 0),(13,AV.int i64 (↑(length k):Int)),(14,AV.int i64 i),(6,AV.ptr 321 0),(28,AV.bool false),(60,AV.fn 89 [] [AV.iptr (Cont.vals
 [AV.imm (Cont.ints i64 a) (length a) none,AV.imm (Cont.ints u8 k) (length k) none,AV.imm (Cont.ints i64 r) (length r) none]),AV.iptr (Cont.vals [AV.int i64 t]),AV.iptr (Cont.vals
 [AV.bool b])])] 83 [61] as70 bd70))]=[(321,HO.blk (Blk.mk (Cont.cells [AV.int i64 i]) 1 1 none (some false) true true)),(128,HO.blk (Blk.mk (Cont.cells [AV.bool false]) 1 1 none (some
 false) true true)),(65,HO.blk (Blk.mk (Cont.cells [AV.int i64 x0,AV.int i64 x1,AV.int i64 x2,AV.int i64 x3,AV.int i64 x4,AV.int i64 x5,AV.int i64 x6,AV.int i64 x7,AV.int i64 0,
 AV.int i64 0,AV.int i64 0,AV.int i64 0,AV.int i64 0,AV.int i64 0,AV.int i64 0,AV.int i64 0,AV.int i64 0,AV.int i64 0,AV.int i64 0,AV.int i64 0,AV.int i64 0,AV.int i64 0,AV.int
 i64 0,AV.int i64 0,AV.int i64 0,AV.int i64 0,AV.int i64 0,AV.int i64 0,AV.int i64 0,AV.int i64 0,AV.int i64 0,AV.int i64 0]) 32 1 none (some false) true true)),(64,HO.blk (Blk.mk
 (Cont.cells [AV.imm (Cont.ints i64 a) (length a) none,AV.imm (Cont.ints u8 k) (length k) none,AV.imm (Cont.ints i64 r) (length r) none]) 3 1 none (some false) true true)),(9002,HO.loop
 (LoopS.mk 0 none [(2,AV.ptr 64 0),(3,AV.ptr 65 0),(5,AV.ptr 128 0),(13,AV.int i64 (↑(length k):Int)),(14,AV.int i64 i),(6,AV.ptr 321 0),(28,AV.bool false),(60,AV.fn 89 []
 [AV.iptr (Cont.vals [AV.imm (Cont.ints i64 a) (length a) none,AV.imm (Cont.ints u8 k) (length k) none,AV.imm (Cont.ints i64 r) (length r) none]),AV.iptr (Cont.vals [AV.int i64 t]),
 AV.iptr (Cont.vals [AV.bool b])])] 83 [61] as70 bd70))]∧0≤b_1.i∧b_1.i<(↑(length k):Int)∧s2B [x0,x1,x2,x3,x4,x5,x6,x7] i b_1.i=false)∧(ltb t u0==b)=true∧(ltb t u0
 ==b)=true∧inR i64 (b_1.i+1)=true∧1=1∧i=i∧1=1∧false=false∧1=1∧x0=x0∧x1=x1∧x2=x2∧x3=x3∧x4=x4∧x5=x5∧x6=x6∧x7=x7∧iI 0=0∧iI 0=
 0∧iI 0=0∧iI 0=0∧iI 0=0∧iI 0=0∧iI 0=0∧iI 0=0∧iI 0=0∧iI 0=0∧iI 0=0∧iI 0=0∧iI 0=0∧iI 0=0∧iI 0=0∧iI 0=0∧iI 0=0∧iI 0=0∧iI 0=0∧
 iI 0=0∧iI 0=0∧iI 0=0∧iI 0=0∧iI 0=0∧1=1∧qs i64 a (qs u8 k (qs i64 r (0=0∧(none:Option Ex)=none∧83=83∧[61]=[61]∧as70=as70∧bd70=bd70∧0=0∧0
 =0∧0=0∧ql k (i=i∧0=0∧false=false∧Cont.vals [AV.imm (Cont.ints i64 a) (length a) none,AV.imm (Cont.ints u8 k) (length k) none,AV.imm (Cont.ints i64 r) (length r) none]=
 Cont.vals [AV.imm (Cont.ints i64 a) (length a) none,AV.imm (Cont.ints u8 k) (length k) none,AV.imm (Cont.ints i64 r) (length r) none]∧Cont.vals [AV.int i64 t]=Cont.vals [AV.int i64 t]
 ∧Cont.vals [AV.bool b]=Cont.vals [AV.bool b]∧Cont.vals [AV.imm (Cont.ints i64 a) (length a) none,AV.imm (Cont.ints u8 k) (length k) none,AV.imm (Cont.ints i64 r) (length r) none]=
 Cont.vals [AV.imm (Cont.ints i64 a) (length a) none,AV.imm (Cont.ints u8 k) (length k) none,AV.imm (Cont.ints i64 r) (length r) none]∧Cont.vals [AV.int i64 t]=Cont.vals [AV.int i64 t]
 ∧Cont.vals [AV.bool b]=Cont.vals [AV.bool b]∧ql k (qx (b_1.i+1) (zz2∧length k-Int.toNat (b_1.i+1)<length k-Int.toNat b_1.i∧True))))))))∧((ltb t (gR r b_1.i)==b)=
 false→inR i64 (b_1.i+1)=true∧rd i64 r (b_1.i+1) (zz0=true∧zz0=true∧zz0=true∧zz0=true∧leb 0 b_1.i=true∧ltb b_1.i (↑(length r):Int)=true∧ltn 0 (Cont.size
 (Cont.ints i64 r))=true∧zz0=true∧ltn 0 (Cont.size (Cont.ints i64 (drop (Int.toNat b_1.i) r)))=true∧zz0=true∧zz0=true∧zz0=true∧zz0=true∧zz0=true∧zz3=true∧
 zz3=true∧zz3=true∧zz3=true∧zz3=true∧inR i64 (b_1.i+1)=true∧1=1∧i=i∧1=1∧false=false∧1=1∧x0=x0∧x1=x1∧x2=x2∧x3=x3∧x4=x4∧x5=x5∧
 x6=x6∧x7=x7∧iI 0=0∧iI 0=0∧iI 0=0∧iI 0=0∧iI 0=0∧iI 0=0∧iI 0=0∧iI 0=0∧iI 0=0∧iI 0=0∧iI 0=0∧iI 0=0∧iI 0=0∧iI 0=0∧iI 0=0∧iI 0
 =0∧iI 0=0∧iI 0=0∧iI 0=0∧iI 0=0∧iI 0=0∧iI 0=0∧iI 0=0∧iI 0=0∧1=1∧qs i64 a (qs u8 k (qs i64 r (0=0∧(none:Option Ex)=none∧83=83∧[61]=[61]∧
 as70=as70∧bd70=bd70∧0=0∧0=0∧0=0∧ql k (i=i∧0=0∧false=false∧Cont.vals [AV.imm (Cont.ints i64 a) (length a) none,AV.imm (Cont.ints u8 k) (length k) none,AV.imm
 (Cont.ints i64 r) (length r) none]=Cont.vals [AV.imm (Cont.ints i64 a) (length a) none,AV.imm (Cont.ints u8 k) (length k) none,AV.imm (Cont.ints i64 r) (length r) none]∧Cont.vals
 [AV.int i64 t]=Cont.vals [AV.int i64 t]∧Cont.vals [AV.bool b]=Cont.vals [AV.bool b]∧Cont.vals [AV.imm (Cont.ints i64 a) (length a) none,AV.imm (Cont.ints u8 k) (length k) none,
 AV.imm (Cont.ints i64 r) (length r) none]=Cont.vals [AV.imm (Cont.ints i64 a) (length a) none,AV.imm (Cont.ints u8 k) (length k) none,AV.imm (Cont.ints i64 r) (length r) none]∧
 Cont.vals [AV.int i64 t]=Cont.vals [AV.int i64 t]∧Cont.vals [AV.bool b]=Cont.vals [AV.bool b]∧ql k (qx (b_1.i+1) (zz2∧length k-Int.toNat (b_1.i+1)<length k-Int.toNat
 b_1.i∧True)))))))))∧((gR r (b_1.i+1)==t)=false→inR i64 (b_1.i+1)=true∧rd i64 r (b_1.i+1) (zz1=true∧zz1=true∧zz1=true∧zz1=true∧zz1=true∧zz1=true∧
 zz1=true∧zz1=true∧zz1=true∧zz1=true∧inR i64 (b_1.i+1)=true∧1=1∧i=i∧1=1∧false=false∧1=1∧x0=x0∧x1=x1∧x2=x2∧x3=x3∧x4=x4∧x5=x5∧
 x6=x6∧x7=x7∧iI 0=0∧iI 0=0∧iI 0=0∧iI 0=0∧iI 0=0∧iI 0=0∧iI 0=0∧iI 0=0∧iI 0=0∧iI 0=0∧iI 0=0∧iI 0=0∧iI 0=0∧iI 0=0∧iI 0=0∧iI 0
 =0∧iI 0=0∧iI 0=0∧iI 0=0∧iI 0=0∧iI 0=0∧iI 0=0∧iI 0=0∧iI 0=0∧1=1∧qs i64 a (qs u8 k (qs i64 r (0=0∧(none:Option Ex)=none∧83=83∧[61]=[61]∧
 as70=as70∧bd70=bd70∧0=0∧0=0∧0=0∧ql k (i=i∧0=0∧false=false∧Cont.vals [AV.imm (Cont.ints i64 a) (length a) none,AV.imm (Cont.ints u8 k) (length k) none,AV.imm
 (Cont.ints i64 r) (length r) none]=Cont.vals [AV.imm (Cont.ints i64 a) (length a) none,AV.imm (Cont.ints u8 k) (length k) none,AV.imm (Cont.ints i64 r) (length r) none]∧Cont.vals
 [AV.int i64 t]=Cont.vals [AV.int i64 t]∧Cont.vals [AV.bool b]=Cont.vals [AV.bool b]∧Cont.vals [AV.imm (Cont.ints i64 a) (length a) none,AV.imm (Cont.ints u8 k) (length k) none,
 AV.imm (Cont.ints i64 r) (length r) none]=Cont.vals [AV.imm (Cont.ints i64 a) (length a) none,AV.imm (Cont.ints u8 k) (length k) none,AV.imm (Cont.ints i64 r) (length r) none]∧
 Cont.vals [AV.int i64 t]=Cont.vals [AV.int i64 t]∧Cont.vals [AV.bool b]=Cont.vals [AV.bool b]∧ql k (qx (b_1.i+1) (zz2∧length k-Int.toNat (b_1.i+1)<length k-Int.toNat
 b_1.i∧True)))))))))∧(ltb b_1.i (↑(length k):Int)=false→1=1∧i=i∧1=1∧false=false∧1=1∧x0=x0∧x1=x1∧x2=x2∧x3=x3∧x4=x4∧x5=x5∧x6=x6∧x7=x7
 ∧iI 0=0∧iI 0=0∧iI 0=0∧iI 0=0∧iI 0=0∧iI 0=0∧iI 0=0∧iI 0=0∧iI 0=0∧iI 0=0∧iI 0=0∧iI 0=0∧iI 0=0∧iI 0=0∧iI 0=0∧iI 0=0∧iI 0=0∧
 iI 0=0∧iI 0=0∧iI 0=0∧iI 0=0∧iI 0=0∧iI 0=0∧iI 0=0∧1=1∧qs i64 a (qs u8 k (qs i64 r (0=0∧(none:Option Ex)=none∧83=83∧[61]=[61]∧as70=as70∧
 bd70=bd70∧0=0∧0=0∧0=0∧ql k (i=i∧0=0∧false=false∧Cont.vals [AV.imm (Cont.ints i64 a) (length a) none,AV.imm (Cont.ints u8 k) (length k) none,AV.imm (Cont.ints
 i64 r) (length r) none]=Cont.vals [AV.imm (Cont.ints i64 a) (length a) none,AV.imm (Cont.ints u8 k) (length k) none,AV.imm (Cont.ints i64 r) (length r) none]∧Cont.vals [AV.int i64 t]=
 Cont.vals [AV.int i64 t]∧Cont.vals [AV.bool b]=Cont.vals [AV.bool b]∧True)))))) (!ltb t u0==b)) (getD (drop (Int.toNat b_1.i) r) 0 0)) (getD (drop (Int.toNat (b_1.i+1)) r) 0 0==
 t)) (!getD (drop (Int.toNat (b_1.i+1)) r) 0 0==t)) (∃(m:Nat),b_1.i+1=(↑m:Int)∧m≤length k))))))):=by kernel_rfl

theorem ob_d_89y (a k r:List Int)(x0 x1 x2 x3 x4 x5 x6 x7 i t:Int)(b:Bool):fnD (USy a k r x0 x1 x2 x3 x4 x5 x6 x7 i t b) G 10000 (fe89) (.r [] 1 (.lp (l89y a k r x0 x1 x2 x3 x4 x5 x6 x7 i t b) [] [] (fun b_1=>(.r [] 0 (.cnd (.r [] 0 (.br (gR r (b_1.i+1)==t) (.br (ltb t (gR r b_1.i)==b) (.r [yO 265,yO 266,yO 267,yO 268,yO 269,yO 270,yO 271,yO 272,yO 273,(274,.auto,Dr.pk true),yO 276,yO 277,(278,.on,Dr.heap),yO 279,(280,.auto,Dr.pk true)] 10781721153 (.cnd .nil (.r [] 0 .nil))) (.r [yO 265,yO 266,yO 267,yO 268,yO 269,yO 270,yO 271,yO 272,yO 273,(274,.auto,Dr.pk true),(276,.off,Dr.plain),(277,.off,Dr.plain),(278,.off,Dr.plain),(279,.off,Dr.plain),(280,.auto,Dr.pk false)] 5413012033 (.lit (.r [] 0 .nil)))) (.r [(265,.off,Dr.plain),(266,.off,Dr.plain),(267,.off,Dr.plain),(268,.off,Dr.plain),(269,.off,Dr.plain),(270,.off,Dr.plain),(271,.off,Dr.plain),(272,.off,Dr.plain),(273,.off,Dr.plain),(274,.auto,Dr.pk false),(276,.off,Dr.plain),(277,.off,Dr.plain),(278,.off,Dr.plain),(279,.off,Dr.plain),(280,.auto,Dr.pk false)] 66912321 (.lit (.r [] 0 .nil))))) .nil))))) ([.yld 9003,.iptr (conF a k r),.iptr (.vals [.int .i64 t]),.iptr (.vals [.bool b])]) (sH70 9003 a k r x0 x1 x2 x3 x4 x5 x6 x7 i t b) ([]) (wsZ a k r x0 x1 x2 x3 x4 x5 x6 x7 i t b true)=(
 1=1∧i=i∧1=1∧false=false∧1=1∧x0=x0∧x1=x1∧x2=x2∧x3=x3∧x4=x4∧x5=x5∧x6=x6∧x7=x7∧iI 0=0∧iI 0=0∧iI 0=0∧iI 0=0∧iI 0=0∧iI 0=
 0∧iI 0=0∧iI 0=0∧iI 0=0∧iI 0=0∧iI 0=0∧iI 0=0∧iI 0=0∧iI 0=0∧iI 0=0∧iI 0=0∧iI 0=0∧iI 0=0∧iI 0=0∧iI 0=0∧iI 0=0∧iI 0=0∧iI 0=0∧
 iI 0=0∧1=1∧qs i64 a (qs u8 k (qs i64 r (0=0∧(none:Option Ex)=none∧83=83∧[61]=[61]∧as70=as70∧bd70=bd70∧0=0∧0=0∧0=0∧ql k (i=i∧0=0∧false=
 false∧Cont.vals [AV.imm (Cont.ints i64 a) (length a) none,AV.imm (Cont.ints u8 k) (length k) none,AV.imm (Cont.ints i64 r) (length r) none]=Cont.vals [AV.imm (Cont.ints i64 a) (length
 a) none,AV.imm (Cont.ints u8 k) (length k) none,AV.imm (Cont.ints i64 r) (length r) none]∧Cont.vals [AV.int i64 t]=Cont.vals [AV.int i64 t]∧Cont.vals [AV.bool b]=Cont.vals [AV.bool
 b]∧Cont.vals [AV.imm (Cont.ints i64 a) (length a) none,AV.imm (Cont.ints u8 k) (length k) none,AV.imm (Cont.ints i64 r) (length r) none]=Cont.vals [AV.imm (Cont.ints i64 a) (length a)
 none,AV.imm (Cont.ints u8 k) (length k) none,AV.imm (Cont.ints i64 r) (length r) none]∧Cont.vals [AV.int i64 t]=Cont.vals [AV.int i64 t]∧Cont.vals [AV.bool b]=Cont.vals [AV.bool b]
 ∧ql k (iI 0=0∧(∃(m:Nat),0=(↑m:Int)∧m≤length k∧∃(q:Nat),m≤q∧q<length k∧lopB r t b (↑q:Int)=true∧s2B [x0,x1,x2,x3,x4,x5,x6,x7] i (↑q:Int)=true)
 ∧∀(b_1:L83),(fun(zz2:Prop)=>(fun(zz1:Bool)=>(fun(zz0:Bool)=>(fun(u0:Int)=>(fun(zz3:Bool)=>(∃(m:Nat),b_1.i=(↑m:Int)∧m≤length k∧∃(q:Nat),m≤q∧
 q<length k∧lopB r t b (↑q:Int)=true∧s2B [x0,x1,x2,x3,x4,x5,x6,x7] i (↑q:Int)=true)→(ltb b_1.i (↑(length k):Int)=true→((gR r (b_1.i+1)==t)=true→((ltb t
 (gR r b_1.i)==b)=true→inR i64 (b_1.i+1)=true∧rd i64 r (b_1.i+1) (zz0=true∧zz0=true∧zz0=true∧zz0=true∧leb 0 b_1.i=true∧ltb b_1.i (↑(length r):Int)=true∧
 ltn 0 (Cont.size (Cont.ints i64 r))=true∧zz0=true∧ltn 0 (Cont.size (Cont.ints i64 (drop (Int.toNat b_1.i) r)))=true∧zz0=true∧zz0=true∧zz0=true∧zz0=true∧zz0=true
 ∧(ltb t u0==b)=true∧(ltb t u0==b)=true∧(ltb t u0==b)=true∧([(321,HO.blk (Blk.mk (Cont.cells [AV.int i64 i]) 1 1 none (some false) true true)),(128,HO.blk (Blk.mk
 (Cont.cells [AV.bool false]) 1 1 none (some false) true true)),(65,HO.blk (Blk.mk (Cont.cells [AV.int i64 x0,AV.int i64 x1,AV.int i64 x2,AV.int i64 x3,AV.int i64 x4,AV.int i64 x5,
 AV.int i64 x6,AV.int i64 x7,AV.int i64 0,AV.int i64 0,AV.int i64 0,AV.int i64 0,AV.int i64 0,AV.int i64 0,AV.int i64 0,AV.int i64 0,AV.int i64 0,AV.int i64 0,AV.int i64 0,AV.int
 i64 0,AV.int i64 0,AV.int i64 0,AV.int i64 0,AV.int i64 0,AV.int i64 0,AV.int i64 0,AV.int i64 0,AV.int i64 0,AV.int i64 0,AV.int i64 0,AV.int i64 0,AV.int i64 0]) 32 1 none
 (some false) true true)),(64,HO.blk (Blk.mk (Cont.cells [AV.imm (Cont.ints i64 a) (length a) none,AV.imm (Cont.ints u8 k) (length k) none,AV.imm (Cont.ints i64 r) (length r) none]) 3 1
 none (some false) true true)),(9003,HO.loop (LoopS.mk 0 none [(2,AV.ptr 64 0),(3,AV.ptr 65 0),(5,AV.ptr 128 0),(13,AV.int i64 (↑(length k):Int)),(14,AV.int i64 i),(6,AV.ptr
 321 0),(28,AV.bool false),(60,AV.fn 89 [] [AV.iptr (Cont.vals [AV.imm (Cont.ints i64 a) (length a) none,AV.imm (Cont.ints u8 k) (length k) none,AV.imm (Cont.ints i64 r) (length r)
 none]),AV.iptr (Cont.vals [AV.int i64 t]),AV.iptr (Cont.vals [AV.bool b])])] 83 [61] as70 bd70))]=[(321,HO.blk (Blk.mk (Cont.cells [AV.int i64 i]) 1 1 none (some false) true true)),
 (128,HO.blk (Blk.mk (Cont.cells [AV.bool false]) 1 1 none (some false) true true)),(65,HO.blk (Blk.mk (Cont.cells [AV.int i64 x0,AV.int i64 x1,AV.int i64 x2,AV.int i64 x3,AV.int i64
 x4,AV.int i64 x5,AV.int i64 x6,AV.int i64 x7,AV.int i64 0,AV.int i64 0,AV.int i64 0,AV.int i64 0,AV.int i64 0,AV.int i64 0,AV.int i64 0,AV.int i64 0,AV.int i64 0,AV.int i64 0,
 AV.int i64 0,AV.int i64 0,AV.int i64 0,AV.int i64 0,AV.int i64 0,AV.int i64 0,AV.int i64 0,AV.int i64 0,AV.int i64 0,AV.int i64 0,AV.int i64 0,AV.int i64 0,AV.int i64 0,AV.int
 i64 0]) 32 1 none (some false) true true)),(64,HO.blk (Blk.mk (Cont.cells [AV.imm (Cont.ints i64 a) (length a) none,AV.imm (Cont.ints u8 k) (length k) none,AV.imm (Cont.ints i64 r)
 (length r) none]) 3 1 none (some false) true true)),(9003,HO.loop (LoopS.mk 0 none [(2,AV.ptr 64 0),(3,AV.ptr 65 0),(5,AV.ptr 128 0),(13,AV.int i64 (↑(length k):Int)),(14,AV.int
 i64 i),(6,AV.ptr 321 0),(28,AV.bool false),(60,AV.fn 89 [] [AV.iptr (Cont.vals [AV.imm (Cont.ints i64 a) (length a) none,AV.imm (Cont.ints u8 k) (length k) none,AV.imm (Cont.ints i64
 r) (length r) none]),AV.iptr (Cont.vals [AV.int i64 t]),AV.iptr (Cont.vals [AV.bool b])])] 83 [61] as70 bd70))]∧0≤b_1.i∧b_1.i<(↑(length k):Int))∧(ltb t u0==b)=true∧(ltb t
 u0==b)=true∧((!!s2B [x0,x1,x2,x3,x4,x5,x6,x7] i b_1.i)=true→1=1∧i=i∧1=1∧s2B [x0,x1,x2,x3,x4,x5,x6,x7] i b_1.i=true∧1=1∧x0=x0∧x1=x1∧x2=x2
 ∧x3=x3∧x4=x4∧x5=x5∧x6=x6∧x7=x7∧iI 0=0∧iI 0=0∧iI 0=0∧iI 0=0∧iI 0=0∧iI 0=0∧iI 0=0∧iI 0=0∧iI 0=0∧iI 0=0∧iI 0=0∧iI 0=0∧iI 0=
 0∧iI 0=0∧iI 0=0∧iI 0=0∧iI 0=0∧iI 0=0∧iI 0=0∧iI 0=0∧iI 0=0∧iI 0=0∧iI 0=0∧iI 0=0∧1=1∧qs i64 a (qs u8 k (qs i64 r ((2=bif s2B [x0,x1,x2,
 x3,x4,x5,x6,x7] i b_1.i then 2 else 0)∧(some (Ex.exit 0)=bif s2B [x0,x1,x2,x3,x4,x5,x6,x7] i b_1.i then some (Ex.exit 0)else none)∧83=83∧[61]=[61]∧as70=as70∧
 bd70=bd70∧0=0∧0=0∧0=0∧ql k (i=i∧0=0∧false=false∧Cont.vals [AV.imm (Cont.ints i64 a) (length a) none,AV.imm (Cont.ints u8 k) (length k) none,AV.imm (Cont.ints
 i64 r) (length r) none]=Cont.vals [AV.imm (Cont.ints i64 a) (length a) none,AV.imm (Cont.ints u8 k) (length k) none,AV.imm (Cont.ints i64 r) (length r) none]∧Cont.vals [AV.int i64 t]=
 Cont.vals [AV.int i64 t]∧Cont.vals [AV.bool b]=Cont.vals [AV.bool b]∧True)))))∧((!!s2B [x0,x1,x2,x3,x4,x5,x6,x7] i b_1.i)=false→inR i64 (b_1.i+1)=true∧1=1∧i=i
 ∧1=1∧s2B [x0,x1,x2,x3,x4,x5,x6,x7] i b_1.i=false∧1=1∧x0=x0∧x1=x1∧x2=x2∧x3=x3∧x4=x4∧x5=x5∧x6=x6∧x7=x7∧iI 0=0∧iI 0=0∧iI 0=0∧iI 0
 =0∧iI 0=0∧iI 0=0∧iI 0=0∧iI 0=0∧iI 0=0∧iI 0=0∧iI 0=0∧iI 0=0∧iI 0=0∧iI 0=0∧iI 0=0∧iI 0=0∧iI 0=0∧iI 0=0∧iI 0=0∧iI 0=0∧iI 0=0
 ∧iI 0=0∧iI 0=0∧iI 0=0∧1=1∧qs i64 a (qs u8 k (qs i64 r ((0=bif s2B [x0,x1,x2,x3,x4,x5,x6,x7] i b_1.i then 2 else 0)∧(none=bif s2B [x0,x1,x2,x3,x4,x5,x6,
 x7] i b_1.i then some (Ex.exit 0)else none)∧83=83∧[61]=[61]∧as70=as70∧bd70=bd70∧0=0∧0=0∧0=0∧ql k (i=i∧0=0∧false=false∧Cont.vals [AV.imm (Cont.ints
 i64 a) (length a) none,AV.imm (Cont.ints u8 k) (length k) none,AV.imm (Cont.ints i64 r) (length r) none]=Cont.vals [AV.imm (Cont.ints i64 a) (length a) none,AV.imm (Cont.ints u8 k)
 (length k) none,AV.imm (Cont.ints i64 r) (length r) none]∧Cont.vals [AV.int i64 t]=Cont.vals [AV.int i64 t]∧Cont.vals [AV.bool b]=Cont.vals [AV.bool b]∧Cont.vals [AV.imm
 (Cont.ints i64 a) (length a) none,AV.imm (Cont.ints u8 k) (length k) none,AV.imm (Cont.ints i64 r) (length r) none]=Cont.vals [AV.imm (Cont.ints i64 a) (length a) none,AV.imm (Cont.ints
 u8 k) (length k) none,AV.imm (Cont.ints i64 r) (length r) none]∧Cont.vals [AV.int i64 t]=Cont.vals [AV.int i64 t]∧Cont.vals [AV.bool b]=Cont.vals [AV.bool b]∧ql k (qx (b_1.i+1)
 (zz2∧length k-Int.toNat (b_1.i+1)<length k-Int.toNat b_1.i∧True)))))))))∧((ltb t (gR r b_1.i)==b)=false→inR i64 (b_1.i+1)=true∧rd i64 r (b_1.i+1) (zz0=true∧
 zz0=true∧zz0=true∧zz0=true∧leb 0 b_1.i=true∧ltb b_1.i (↑(length r):Int)=true∧ltn 0 (Cont.size (Cont.ints i64 r))=true∧zz0=true∧ltn 0 (Cont.size (Cont.ints i64
 (drop (Int.toNat b_1.i) r)))=true∧zz0=true∧zz0=true∧zz0=true∧zz0=true∧zz0=true∧zz3=true∧zz3=true∧zz3=true∧zz3=true∧zz3=true∧inR i64 (b_1.i+1)=
 true∧1=1∧i=i∧1=1∧false=false∧1=1∧x0=x0∧x1=x1∧x2=x2∧x3=x3∧x4=x4∧x5=x5∧x6=x6∧x7=x7∧iI 0=0∧iI 0=0∧iI 0=0∧iI 0=0∧iI 0=0∧
 iI 0=0∧iI 0=0∧iI 0=0∧iI 0=0∧iI 0=0∧iI 0=0∧iI 0=0∧iI 0=0∧iI 0=0∧iI 0=0∧iI 0=0∧iI 0=0∧iI 0=0∧iI 0=0∧iI 0=0∧iI 0=0∧iI 0=0∧iI
 0=0∧iI 0=0∧1=1∧qs i64 a (qs u8 k (qs i64 r (0=0∧(none:Option Ex)=none∧83=83∧[61]=[61]∧as70=as70∧bd70=bd70∧0=0∧0=0∧0=0∧ql k (i=i∧0=0∧
 false=false∧Cont.vals [AV.imm (Cont.ints i64 a) (length a) none,AV.imm (Cont.ints u8 k) (length k) none,AV.imm (Cont.ints i64 r) (length r) none]=Cont.vals [AV.imm (Cont.ints i64 a)
 (length a) none,AV.imm (Cont.ints u8 k) (length k) none,AV.imm (Cont.ints i64 r) (length r) none]∧Cont.vals [AV.int i64 t]=Cont.vals [AV.int i64 t]∧Cont.vals [AV.bool b]=Cont.vals
 [AV.bool b]∧Cont.vals [AV.imm (Cont.ints i64 a) (length a) none,AV.imm (Cont.ints u8 k) (length k) none,AV.imm (Cont.ints i64 r) (length r) none]=Cont.vals [AV.imm (Cont.ints i64 a)
 (length a) none,AV.imm (Cont.ints u8 k) (length k) none,AV.imm (Cont.ints i64 r) (length r) none]∧Cont.vals [AV.int i64 t]=Cont.vals [AV.int i64 t]∧Cont.vals [AV.bool b]=Cont.vals
 [AV.bool b]∧ql k (qx (b_1.i+1) (zz2∧length k-Int.toNat (b_1.i+1)<length k-Int.toNat b_1.i∧True)))))))))∧((gR r (b_1.i+1)==t)=false→inR i64 (b_1.i+1)=true∧rd
 i64 r (b_1.i+1) (zz1=true∧zz1=true∧zz1=true∧zz1=true∧zz1=true∧zz1=true∧zz1=true∧zz1=true∧zz1=true∧zz1=true∧inR i64 (b_1.i+1)=true∧1=1∧i=
 i∧1=1∧false=false∧1=1∧x0=x0∧x1=x1∧x2=x2∧x3=x3∧x4=x4∧x5=x5∧x6=x6∧x7=x7∧iI 0=0∧iI 0=0∧iI 0=0∧iI 0=0∧iI 0=0∧iI 0=0∧iI 0=0
 ∧iI 0=0∧iI 0=0∧iI 0=0∧iI 0=0∧iI 0=0∧iI 0=0∧iI 0=0∧iI 0=0∧iI 0=0∧iI 0=0∧iI 0=0∧iI 0=0∧iI 0=0∧iI 0=0∧iI 0=0∧iI 0=0∧iI 0=0∧1
 =1∧qs i64 a (qs u8 k (qs i64 r (0=0∧(none:Option Ex)=none∧83=83∧[61]=[61]∧as70=as70∧bd70=bd70∧0=0∧0=0∧0=0∧ql k (i=i∧0=0∧false=false∧
 Cont.vals [AV.imm (Cont.ints i64 a) (length a) none,AV.imm (Cont.ints u8 k) (length k) none,AV.imm (Cont.ints i64 r) (length r) none]=Cont.vals [AV.imm (Cont.ints i64 a) (length a) none,
 AV.imm (Cont.ints u8 k) (length k) none,AV.imm (Cont.ints i64 r) (length r) none]∧Cont.vals [AV.int i64 t]=Cont.vals [AV.int i64 t]∧Cont.vals [AV.bool b]=Cont.vals [AV.bool b]∧
 Cont.vals [AV.imm (Cont.ints i64 a) (length a) none,AV.imm (Cont.ints u8 k) (length k) none,AV.imm (Cont.ints i64 r) (length r) none]=Cont.vals [AV.imm (Cont.ints i64 a) (length a) none,
 AV.imm (Cont.ints u8 k) (length k) none,AV.imm (Cont.ints i64 r) (length r) none]∧Cont.vals [AV.int i64 t]=Cont.vals [AV.int i64 t]∧Cont.vals [AV.bool b]=Cont.vals [AV.bool b]∧ql
 k (qx (b_1.i+1) (zz2∧length k-Int.toNat (b_1.i+1)<length k-Int.toNat b_1.i∧True)))))))))∧(ltb b_1.i (↑(length k):Int)=false→1=1∧i=i∧1=1∧false=true∧1=1
 ∧x0=x0∧x1=x1∧x2=x2∧x3=x3∧x4=x4∧x5=x5∧x6=x6∧x7=x7∧iI 0=0∧iI 0=0∧iI 0=0∧iI 0=0∧iI 0=0∧iI 0=0∧iI 0=0∧iI 0=0∧iI 0=0∧iI 0=0
 ∧iI 0=0∧iI 0=0∧iI 0=0∧iI 0=0∧iI 0=0∧iI 0=0∧iI 0=0∧iI 0=0∧iI 0=0∧iI 0=0∧iI 0=0∧iI 0=0∧iI 0=0∧iI 0=0∧1=1∧qs i64 a (qs u8 k (qs i64
 r (2=0∧some (Ex.exit 0)=none∧83=83∧[61]=[61]∧as70=as70∧bd70=bd70∧0=0∧0=0∧0=0∧ql k (i=i∧0=0∧false=false∧Cont.vals [AV.imm (Cont.ints i64 a)
 (length a) none,AV.imm (Cont.ints u8 k) (length k) none,AV.imm (Cont.ints i64 r) (length r) none]=Cont.vals [AV.imm (Cont.ints i64 a) (length a) none,AV.imm (Cont.ints u8 k) (length k)
 none,AV.imm (Cont.ints i64 r) (length r) none]∧Cont.vals [AV.int i64 t]=Cont.vals [AV.int i64 t]∧Cont.vals [AV.bool b]=Cont.vals [AV.bool b]∧True)))))) (!ltb t u0==b)) (getD
 (drop (Int.toNat b_1.i) r) 0 0)) (getD (drop (Int.toNat (b_1.i+1)) r) 0 0==t)) (!getD (drop (Int.toNat (b_1.i+1)) r) 0 0==t)) (∃(m:Nat),b_1.i+1=(↑m:Int)∧m≤length k∧∃
 (q:Nat),m≤q∧q<length k∧lopB r t b (↑q:Int)=true∧s2B [x0,x1,x2,x3,x4,x5,x6,x7] i (↑q:Int)=true))))))):=by kernel_rfl

theorem ob_s70 (a k r:List Int)(x0 x1 x2 x3 x4 x5 x6 x7:Int):fnP (T70 a k r x0 x1 x2 x3 x4 x5 x6 x7) G 10000 fe70 (.r [] 0 (.r [] 1 (.r [] 1 (.lp (sl70 (length k) (length a) r [x0,x1,x2,x3,x4,x5,x6,x7]) [] [] (fun b=>(.r [] 0 (.cnd (.r [] 1 (.r [] 3 (.r [] 1 (.lp (sm70 (length a) r [x0,x1,x2,x3,x4,x5,x6,x7] b.i) [] [] (fun b_1=>(.r [] 0 (.cnd (.r [] 0 (.br (ltb (mnI (gR r b_1.i) (gR r (b_1.i+1))) (gR r (b.i+1))) (.br (ltb (gR r (b.i+1)) (mxI (gR r b_1.i) (gR r (b_1.i+1)))) (.r [yO 646,yO 647,yO 648,yO 649,yO 650,(651,.auto,Dr.pk true),yO 653,yO 654,yO 655,yO 656,(657,.on,Dr.val [AV.int i64 (gR [x0,x1,x2,x3,x4,x5,x6,x7] b_1.i)]),yO 658,(659,.auto,Dr.pk true)] 83929617 (.cnd (.r [] 1 (.r [] 1 .nil)) (.r [] 0 .nil))) (.r [yO 646,yO 647,yO 648,yO 649,yO 650,(651,.auto,Dr.pk true),(653,.off,Dr.plain),(654,.off,Dr.plain),(655,.off,Dr.plain),(656,.off,Dr.plain),(657,.off,Dr.plain),(658,.off,Dr.plain),(659,.auto,Dr.pk false)] 1313297 (.lit (.r [] 0 .nil)))) (.r [(646,.off,Dr.plain),(647,.off,Dr.plain),(648,.off,Dr.plain),(649,.off,Dr.plain),(650,.off,Dr.plain),(651,.auto,Dr.pk false),(653,.off,Dr.plain),(654,.off,Dr.plain),(655,.off,Dr.plain),(656,.off,Dr.plain),(657,.off,Dr.plain),(658,.off,Dr.plain),(659,.auto,Dr.pk false)] 523905 (.lit (.r [] 0 .nil))))) (.br (cs2 (length k) r [x0,x1,x2,x3,x4,x5,x6,x7] b.i) (.r [] 7 (.rf 9003 0 (.r [] 1 .nil))) (.r [] 7 (.rf 9002 0 (.r [] 0 .nil))))))))))) (.r [] 1 .nil)))))))) ([conV a k r,z32V x0 x1 x2 x3 x4 x5 x6 x7]) ([.bool (crS k.length a.length r [x0,x1,x2,x3,x4,x5,x6,x7])]) ([])=(
 1=1∧qs i64 a (qs u8 k (qs i64 r (1=1∧x0=x0∧x1=x1∧x2=x2∧x3=x3∧x4=x4∧x5=x5∧x6=x6∧x7=x7∧iI 0=0∧iI 0=0∧iI 0=0∧iI 0=0∧iI 0=0∧iI 0=0∧
 iI 0=0∧iI 0=0∧iI 0=0∧iI 0=0∧iI 0=0∧iI 0=0∧iI 0=0∧iI 0=0∧iI 0=0∧iI 0=0∧iI 0=0∧iI 0=0∧iI 0=0∧iI 0=0∧iI 0=0∧iI 0=0∧iI 0=0∧iI
 0=0∧1=1∧false=false∧0=0∧0=0∧0=0∧ql k (iI 0=0∧(∃(q:Nat),0=(↑q:Int)∧q≤length k∧∀(j:Nat),j<q→(cs1 (length a) r [x0,x1,x2,x3,x4,x5,x6,x7]
 (↑j:Int)||cs2 (length k) r [x0,x1,x2,x3,x4,x5,x6,x7] (↑j:Int))=false)∧∀(b:L83),(fun(zz6:Int)=>(fun(zz4:Int)=>(fun(zz0:Int)=>(∃(q:Nat),b.i=(↑q:Int)
 ∧q≤length k∧∀(j:Nat),j<q→(cs1 (length a) r [x0,x1,x2,x3,x4,x5,x6,x7] (↑j:Int)||cs2 (length k) r [x0,x1,x2,x3,x4,x5,x6,x7] (↑j:Int))=false)→(ltb b.i
 (↑(length k):Int)=true→inR i64 (b.i+1)=true∧rd i64 r (b.i+1) (1=1∧qs i64 a (qs u8 k (qs i64 r (1=1∧x0=x0∧x1=x1∧x2=x2∧x3=x3∧x4=x4∧x5=x5∧x6=x6∧
 x7=x7∧iI 0=0∧iI 0=0∧iI 0=0∧iI 0=0∧iI 0=0∧iI 0=0∧iI 0=0∧iI 0=0∧iI 0=0∧iI 0=0∧iI 0=0∧iI 0=0∧iI 0=0∧iI 0=0∧iI 0=0∧iI 0=0∧iI 0
 =0∧iI 0=0∧iI 0=0∧iI 0=0∧iI 0=0∧iI 0=0∧iI 0=0∧iI 0=0∧1=1∧false=false∧1=1∧b.i=b.i∧0=0∧0=0∧0=0∧ql k (b.i=b.i∧0=0∧qx zz0 (ql a
 (iI 0=0∧(∃(m:Nat),0=(↑m:Int)∧m≤length a∧∀(j:Nat),j<m→s1B r [x0,x1,x2,x3,x4,x5,x6,x7] b.i (↑j:Int)=false)∧∀(b_1:L83),(fun(zz5:Int)=>(fun(zz3:
 Prop)=>(fun(zz2:Int)=>(fun(zz1:Int)=>(∃(m:Nat),b_1.i=(↑m:Int)∧m≤length a∧∀(j:Nat),j<m→s1B r [x0,x1,x2,x3,x4,x5,x6,x7] b.i (↑j:Int)=false)→(ltb
 b_1.i (↑(length a):Int)=true→(ltb zz1 zz6=true→(ltb zz6 zz2=true→(cok a k r (length a) (length k) (length r)∧0≤b_1.i∧b_1.i+1<(↑(length r):Int)∧length r≤9)∧ltb
 zz1 zz0=true∧ltb zz1 zz0=true∧ltb zz1 zz0=true∧ltb zz1 zz0=true∧(cok a k r (length a) (length k) (length r)∧0≤b_1.i∧b_1.i+1<(↑(length r):Int)∧length r≤9)∧
 ltb zz1 zz0=true∧ltb zz1 zz0=true∧ltb zz0 zz2=true∧ltb zz0 zz2=true∧ltb zz0 zz2=true∧ltb zz0 zz2=true∧leb 0 b_1.i=true∧ltb b_1.i 32=true∧ltb zz0 zz2=true∧
 [AV.int i64 x0,AV.int i64 x1,AV.int i64 x2,AV.int i64 x3,AV.int i64 x4,AV.int i64 x5,AV.int i64 x6,AV.int i64 x7,AV.int i64 0,AV.int i64 0,AV.int i64 0,AV.int i64 0,AV.int i64 0,
 AV.int i64 0,AV.int i64 0,AV.int i64 0,AV.int i64 0,AV.int i64 0,AV.int i64 0,AV.int i64 0,AV.int i64 0,AV.int i64 0,AV.int i64 0,AV.int i64 0,AV.int i64 0,AV.int i64 0,AV.int
 i64 0,AV.int i64 0,AV.int i64 0,AV.int i64 0,AV.int i64 0,AV.int i64 0][Int.toNat b_1.i]? =some (AV.int i64 zz5)∧ltb zz0 zz2=true∧(0≤b.i∧b.i<7)∧ltb zz0 zz2=true∧(btS
 [x0,x1,x2,x3,x4,x5,x6,x7] b.i zz5=true→true=crS (length k) (length a) r [x0,x1,x2,x3,x4,x5,x6,x7]∧True)∧(btS [x0,x1,x2,x3,x4,x5,x6,x7] b.i zz5=false→inR
 i64 (b_1.i+1)=true∧1=1∧qs i64 a (qs u8 k (qs i64 r (1=1∧x0=x0∧x1=x1∧x2=x2∧x3=x3∧x4=x4∧x5=x5∧x6=x6∧x7=x7∧iI 0=0∧iI 0=0∧iI 0=0∧iI 0=
 0∧iI 0=0∧iI 0=0∧iI 0=0∧iI 0=0∧iI 0=0∧iI 0=0∧iI 0=0∧iI 0=0∧iI 0=0∧iI 0=0∧iI 0=0∧iI 0=0∧iI 0=0∧iI 0=0∧iI 0=0∧iI 0=0∧iI 0=0∧
 iI 0=0∧iI 0=0∧iI 0=0∧1=1∧false=false∧1=1∧b.i=b.i∧0=0∧0=0∧0=0∧ql k (b.i=b.i∧0=0∧qx zz0 (ql a (qx (b_1.i+1) (zz3∧length a-Int.toNat (b_1.i
 +1)<length a-Int.toNat b_1.i∧True)))))))))∧(ltb zz6 zz2=false→(cok a k r (length a) (length k) (length r)∧0≤b_1.i∧b_1.i+1<(↑(length r):Int)∧length r≤9)∧ltb zz1
 zz0=true∧ltb zz1 zz0=true∧ltb zz1 zz0=true∧ltb zz1 zz0=true∧(cok a k r (length a) (length k) (length r)∧0≤b_1.i∧b_1.i+1<(↑(length r):Int)∧length r≤9)∧ltb
 zz1 zz0=true∧ltb zz1 zz0=true∧(!ltb zz0 zz2)=true∧(!ltb zz0 zz2)=true∧(!ltb zz0 zz2)=true∧(!ltb zz0 zz2)=true∧(!ltb zz0 zz2)=true∧(!ltb zz0 zz2)=true∧(!ltb
 zz0 zz2)=true∧inR i64 (b_1.i+1)=true∧1=1∧qs i64 a (qs u8 k (qs i64 r (1=1∧x0=x0∧x1=x1∧x2=x2∧x3=x3∧x4=x4∧x5=x5∧x6=x6∧x7=x7∧iI 0=0∧iI 0=
 0∧iI 0=0∧iI 0=0∧iI 0=0∧iI 0=0∧iI 0=0∧iI 0=0∧iI 0=0∧iI 0=0∧iI 0=0∧iI 0=0∧iI 0=0∧iI 0=0∧iI 0=0∧iI 0=0∧iI 0=0∧iI 0=0∧iI 0=0∧
 iI 0=0∧iI 0=0∧iI 0=0∧iI 0=0∧iI 0=0∧1=1∧false=false∧1=1∧b.i=b.i∧0=0∧0=0∧0=0∧ql k (b.i=b.i∧0=0∧qx zz0 (ql a (qx (b_1.i+1) (zz3∧
 length a-Int.toNat (b_1.i+1)<length a-Int.toNat b_1.i∧True)))))))))∧(ltb zz1 zz6=false→(cok a k r (length a) (length k) (length r)∧0≤b_1.i∧b_1.i+1<(↑(length r):
 Int)∧length r≤9)∧(!ltb zz1 zz0)=true∧(!ltb zz1 zz0)=true∧(!ltb zz1 zz0)=true∧(!ltb zz1 zz0)=true∧(!ltb zz1 zz0)=true∧(!ltb zz1 zz0)=true∧inR i64 (b_1.i+1)=
 true∧1=1∧qs i64 a (qs u8 k (qs i64 r (1=1∧x0=x0∧x1=x1∧x2=x2∧x3=x3∧x4=x4∧x5=x5∧x6=x6∧x7=x7∧iI 0=0∧iI 0=0∧iI 0=0∧iI 0=0∧iI 0=0∧iI
 0=0∧iI 0=0∧iI 0=0∧iI 0=0∧iI 0=0∧iI 0=0∧iI 0=0∧iI 0=0∧iI 0=0∧iI 0=0∧iI 0=0∧iI 0=0∧iI 0=0∧iI 0=0∧iI 0=0∧iI 0=0∧iI 0=0∧iI 0=
 0∧iI 0=0∧1=1∧false=false∧1=1∧b.i=b.i∧0=0∧0=0∧0=0∧ql k (b.i=b.i∧0=0∧qx zz0 (ql a (qx (b_1.i+1) (zz3∧length a-Int.toNat (b_1.i+1)<length a-
 Int.toNat b_1.i∧True)))))))))∧(ltb b_1.i (↑(length a):Int)=false→(cs2 (length k) r [x0,x1,x2,x3,x4,x5,x6,x7] b.i=true→rd i64 r b.i (cok a k r (length a) (length k)
 (length r)∧([(321,HO.blk (Blk.mk (Cont.cells [AV.int i64 b.i]) 1 1 none (some false) true true)),(128,HO.blk (Blk.mk (Cont.cells [AV.bool false]) 1 1 none (some false) true true)),(65,
 HO.blk (Blk.mk (Cont.cells [AV.int i64 x0,AV.int i64 x1,AV.int i64 x2,AV.int i64 x3,AV.int i64 x4,AV.int i64 x5,AV.int i64 x6,AV.int i64 x7,AV.int i64 0,AV.int i64 0,AV.int i64 0,
 AV.int i64 0,AV.int i64 0,AV.int i64 0,AV.int i64 0,AV.int i64 0,AV.int i64 0,AV.int i64 0,AV.int i64 0,AV.int i64 0,AV.int i64 0,AV.int i64 0,AV.int i64 0,AV.int i64 0,AV.int
 i64 0,AV.int i64 0,AV.int i64 0,AV.int i64 0,AV.int i64 0,AV.int i64 0,AV.int i64 0,AV.int i64 0]) 32 1 none (some false) true true)),(64,HO.blk (Blk.mk (Cont.cells [AV.imm
 (Cont.ints i64 a) (length a) none,AV.imm (Cont.ints u8 k) (length k) none,AV.imm (Cont.ints i64 r) (length r) none]) 3 1 none (some false) true true)),(9003,HO.loop (LoopS.mk 0 none [(2,
 AV.ptr 64 0),(3,AV.ptr 65 0),(5,AV.ptr 128 0),(13,AV.int i64 (↑(length k):Int)),(14,AV.int i64 b.i),(6,AV.ptr 321 0),(28,AV.bool (ltb b_1.i (↑(length a):Int))),(60,AV.fn 89
 [] [AV.iptr (Cont.vals [AV.imm (Cont.ints i64 a) (length a) none,AV.imm (Cont.ints u8 k) (length k) none,AV.imm (Cont.ints i64 r) (length r) none]),AV.iptr (Cont.vals [AV.int i64 zz0]),
 AV.iptr (Cont.vals [AV.bool (ltb zz0 zz4)])])] 83 [61] as70 bd70))]=[(321,HO.blk (Blk.mk (Cont.cells [AV.int i64 b.i]) 1 1 none (some false) true true)),(128,HO.blk (Blk.mk (Cont.cells
 [AV.bool false]) 1 1 none (some false) true true)),(65,HO.blk (Blk.mk (Cont.cells [AV.int i64 x0,AV.int i64 x1,AV.int i64 x2,AV.int i64 x3,AV.int i64 x4,AV.int i64 x5,AV.int i64 x6,
 AV.int i64 x7,AV.int i64 0,AV.int i64 0,AV.int i64 0,AV.int i64 0,AV.int i64 0,AV.int i64 0,AV.int i64 0,AV.int i64 0,AV.int i64 0,AV.int i64 0,AV.int i64 0,AV.int i64 0,AV.int
 i64 0,AV.int i64 0,AV.int i64 0,AV.int i64 0,AV.int i64 0,AV.int i64 0,AV.int i64 0,AV.int i64 0,AV.int i64 0,AV.int i64 0,AV.int i64 0,AV.int i64 0]) 32 1 none (some false) true
 true)),(64,HO.blk (Blk.mk (Cont.cells [AV.imm (Cont.ints i64 a) (length a) none,AV.imm (Cont.ints u8 k) (length k) none,AV.imm (Cont.ints i64 r) (length r) none]) 3 1 none (some false)
 true true)),(9003,HO.loop (LoopS.mk 0 none [(2,AV.ptr 64 0),(3,AV.ptr 65 0),(5,AV.ptr 128 0),(13,AV.int i64 (↑(length k):Int)),(14,AV.int i64 b.i),(6,AV.ptr 321 0),(28,
 AV.bool false),(60,AV.fn 89 [] [AV.iptr (Cont.vals [AV.imm (Cont.ints i64 a) (length a) none,AV.imm (Cont.ints u8 k) (length k) none,AV.imm (Cont.ints i64 r) (length r) none]),AV.iptr
 (Cont.vals [AV.int i64 zz0]),AV.iptr (Cont.vals [AV.bool (ltb zz0 zz4)])])] 83 [61] as70 bd70))]∧a=a∧k=k∧r=r∧length a=length a∧length k=length k∧length r=length r∧
 0≤b.i∧b.i<(↑(length k):Int)∧getD (drop (Int.toNat (b.i+1)) r) 0 0=gR r (b.i+1)∧ltb zz0 zz4=ltb zz6 (gR r b.i)∧cs2 (length k) r [x0,x1,x2,x3,x4,x5,x6,x7] b.i=
 true)∧true=crS (length k) (length a) r [x0,x1,x2,x3,x4,x5,x6,x7]∧True))∧(cs2 (length k) r [x0,x1,x2,x3,x4,x5,x6,x7] b.i=false→rd i64 r b.i (cok a k r (length a)
 (length k) (length r)∧([(321,HO.blk (Blk.mk (Cont.cells [AV.int i64 b.i]) 1 1 none (some false) true true)),(128,HO.blk (Blk.mk (Cont.cells [AV.bool false]) 1 1 none (some false) true
 true)),(65,HO.blk (Blk.mk (Cont.cells [AV.int i64 x0,AV.int i64 x1,AV.int i64 x2,AV.int i64 x3,AV.int i64 x4,AV.int i64 x5,AV.int i64 x6,AV.int i64 x7,AV.int i64 0,AV.int i64 0,
 AV.int i64 0,AV.int i64 0,AV.int i64 0,AV.int i64 0,AV.int i64 0,AV.int i64 0,AV.int i64 0,AV.int i64 0,AV.int i64 0,AV.int i64 0,AV.int i64 0,AV.int i64 0,AV.int i64 0,AV.int
 i64 0,AV.int i64 0,AV.int i64 0,AV.int i64 0,AV.int i64 0,AV.int i64 0,AV.int i64 0,AV.int i64 0,AV.int i64 0]) 32 1 none (some false) true true)),(64,HO.blk (Blk.mk (Cont.cells
 [AV.imm (Cont.ints i64 a) (length a) none,AV.imm (Cont.ints u8 k) (length k) none,AV.imm (Cont.ints i64 r) (length r) none]) 3 1 none (some false) true true)),(9002,HO.loop (LoopS.mk 0
 none [(2,AV.ptr 64 0),(3,AV.ptr 65 0),(5,AV.ptr 128 0),(13,AV.int i64 (↑(length k):Int)),(14,AV.int i64 b.i),(6,AV.ptr 321 0),(28,AV.bool (ltb b_1.i (↑(length a):Int))),
 (60,AV.fn 89 [] [AV.iptr (Cont.vals [AV.imm (Cont.ints i64 a) (length a) none,AV.imm (Cont.ints u8 k) (length k) none,AV.imm (Cont.ints i64 r) (length r) none]),AV.iptr (Cont.vals
 [AV.int i64 zz0]),AV.iptr (Cont.vals [AV.bool (ltb zz0 zz4)])])] 83 [61] as70 bd70))]=[(321,HO.blk (Blk.mk (Cont.cells [AV.int i64 b.i]) 1 1 none (some false) true true)),(128,HO.blk
 (Blk.mk (Cont.cells [AV.bool false]) 1 1 none (some false) true true)),(65,HO.blk (Blk.mk (Cont.cells [AV.int i64 x0,AV.int i64 x1,AV.int i64 x2,AV.int i64 x3,AV.int i64 x4,AV.int i64
 x5,AV.int i64 x6,AV.int i64 x7,AV.int i64 0,AV.int i64 0,AV.int i64 0,AV.int i64 0,AV.int i64 0,AV.int i64 0,AV.int i64 0,AV.int i64 0,AV.int i64 0,AV.int i64 0,AV.int i64 0,
 AV.int i64 0,AV.int i64 0,AV.int i64 0,AV.int i64 0,AV.int i64 0,AV.int i64 0,AV.int i64 0,AV.int i64 0,AV.int i64 0,AV.int i64 0,AV.int i64 0,AV.int i64 0,AV.int i64 0]) 32 1
 none (some false) true true)),(64,HO.blk (Blk.mk (Cont.cells [AV.imm (Cont.ints i64 a) (length a) none,AV.imm (Cont.ints u8 k) (length k) none,AV.imm (Cont.ints i64 r) (length r) none])
 3 1 none (some false) true true)),(9002,HO.loop (LoopS.mk 0 none [(2,AV.ptr 64 0),(3,AV.ptr 65 0),(5,AV.ptr 128 0),(13,AV.int i64 (↑(length k):Int)),(14,AV.int i64 b.i),(6,
 AV.ptr 321 0),(28,AV.bool false),(60,AV.fn 89 [] [AV.iptr (Cont.vals [AV.imm (Cont.ints i64 a) (length a) none,AV.imm (Cont.ints u8 k) (length k) none,AV.imm (Cont.ints i64 r) (length
 r) none]),AV.iptr (Cont.vals [AV.int i64 zz0]),AV.iptr (Cont.vals [AV.bool (ltb zz0 zz4)])])] 83 [61] as70 bd70))]∧a=a∧k=k∧r=r∧length a=length a∧length k=length k∧
 length r=length r∧0≤b.i∧b.i<(↑(length k):Int)∧getD (drop (Int.toNat (b.i+1)) r) 0 0=gR r (b.i+1)∧ltb zz0 zz4=ltb zz6 (gR r b.i)∧cs2 (length k) r [x0,x1,x2,x3,
 x4,x5,x6,x7] b.i=false)∧inR i64 (b.i+1)=true∧1=1∧qs i64 a (qs u8 k (qs i64 r (1=1∧x0=x0∧x1=x1∧x2=x2∧x3=x3∧x4=x4∧x5=x5∧x6=x6∧x7=x7∧iI 0=
 0∧iI 0=0∧iI 0=0∧iI 0=0∧iI 0=0∧iI 0=0∧iI 0=0∧iI 0=0∧iI 0=0∧iI 0=0∧iI 0=0∧iI 0=0∧iI 0=0∧iI 0=0∧iI 0=0∧iI 0=0∧iI 0=0∧iI 0=0∧
 iI 0=0∧iI 0=0∧iI 0=0∧iI 0=0∧iI 0=0∧iI 0=0∧1=1∧false=false∧0=0∧0=0∧0=0∧ql k (b.i+1=b.i+1∧(∃(q:Nat),b.i+1=(↑q:Int)∧q≤length k
 ∧∀(j:Nat),j<q→(cs1 (length a) r [x0,x1,x2,x3,x4,x5,x6,x7] (↑j:Int)||cs2 (length k) r [x0,x1,x2,x3,x4,x5,x6,x7] (↑j:Int))=false)∧length k-Int.toNat (b.i+
 1)<length k-Int.toNat b.i∧True)))))))) (mnI (gR r b_1.i) (gR r (b_1.i+1)))) (mxI (gR r b_1.i) (gR r (b_1.i+1)))) (∃(m:Nat),b_1.i+1=(↑m:Int)∧m≤length a∧∀(j:Nat),
 j<m→s1B r [x0,x1,x2,x3,x4,x5,x6,x7] b.i (↑j:Int)=false)) (gR [x0,x1,x2,x3,x4,x5,x6,x7] b_1.i)))))))))∧(ltb b.i (↑(length k):Int)=false→false=crS (length k)
 (length a) r [x0,x1,x2,x3,x4,x5,x6,x7]∧True)) (getD (drop (Int.toNat (b.i+1)) r) 0 0)) (getD (drop (Int.toNat b.i) r) 0 0)) (gR r (b.i+1))))))):=by kernel_rfl

end Go.Proofs.Ythiammkiobbclaa.X
