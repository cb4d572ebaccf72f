/-
 What is to be shown of the functions (made by a program).
-/
import Derived.Test.YthiammkiobbclaaD21Z
import Derived.KernelRfl
set_option maxRecDepth 1000000
set_option linter.unusedVariables false
namespace Go.Proofs.Ythiammkiobbclaa.X
open Go Go.Ab
open List IntKind

theorem ob_g62 (a k r:List Int)(c:Int):fnP (T0) G 10000 fe43 (.r [] 0 (.frz 2 0 (.frz 3 0 (.r [] 0 .nil)))) ([conV a k r,.int .i64 c]) ([besV a k r c]) ([])=(
 Cont.vals [AV.imm (Cont.ints i64 a) (length a) none,AV.imm (Cont.ints u8 k) (length k) none,AV.imm (Cont.ints i64 r) (length r) none]=Cont.vals [AV.imm (Cont.ints i64 a) (length a) none,AV.imm
 (Cont.ints u8 k) (length k) none,AV.imm (Cont.ints i64 r) (length r) none]∧Cont.vals [AV.int i64 c]=Cont.vals [AV.int i64 c]∧True):=by kernel_rfl

theorem ob_y_40a (a k r:List Int)(x0 x1 x2 x3 x4 x5 x6 x7 i x:Int):fnY (TR3) G 10000 (9002) (.r [] 0 (.r [(898,.auto,Dr.val [AV.int i64 (gR [x0,x1,x2,x3,x4,x5,x6,x7] x)]),(903,.auto,Dr.val [AV.int i64 (gR [x0,x1,x2,x3,x4,x5,x6,x7] (bhI (↑(length a):Int) x))]),yM 907,yM 908,yM 909,yM 910,yM 911,yM 912,yM 913,yM 914,yM 915,yM 916,yM 917,yM 918,yM 919] 1074726664 (.ff .nil))) ([.int .i64 x]) (rH40 9002 a k r x0 x1 x2 x3 x4 x5 x6 x7 i) (true) ([])=(
 (fun(zz0:Int)=>leb 0 x=true∧ltb x 32=true∧[AV.int i64 x0,AV.int i64 x1,AV.int i64 x2,AV.int i64 x3,AV.int i64 x4,AV.int i64 x5,AV.int i64 x6,AV.int i64 x7,AV.int i64
 (-1),AV.int i64 (-1),AV.int i64 (-1),AV.int i64 (-1),AV.int i64 (-1),AV.int i64 (-1),AV.int i64 (-1),AV.int i64 (-1),AV.int i64 (-1),AV.int i64 (-1),AV.int i64 (-1),AV.int i64
 (-1),AV.int i64 (-1),AV.int i64 (-1),AV.int i64 (-1),AV.int i64 (-1),AV.int i64 (-1),AV.int i64 (-1),AV.int i64 (-1),AV.int i64 (-1),AV.int i64 (-1),AV.int i64 (-1),AV.int i64
 (-1),AV.int i64 (-1)][Int.toNat x]? =some (AV.int i64 (gR [x0,x1,x2,x3,x4,x5,x6,x7] x))∧(cok a k r (length a) (length k) (length r)∧0<length a∧length a≤8∧0≤x∧x<
 (↑(length a):Int))∧leb 0 (bhI (↑(length a):Int) x)=true∧ltb (bhI (↑(length a):Int) x) 32=true∧[AV.int i64 x0,AV.int i64 x1,AV.int i64 x2,AV.int i64 x3,AV.int i64 x4,
 AV.int i64 x5,AV.int i64 x6,AV.int i64 x7,AV.int i64 (-1),AV.int i64 (-1),AV.int i64 (-1),AV.int i64 (-1),AV.int i64 (-1),AV.int i64 (-1),AV.int i64 (-1),AV.int i64 (-1),AV.int
 i64 (-1),AV.int i64 (-1),AV.int i64 (-1),AV.int i64 (-1),AV.int i64 (-1),AV.int i64 (-1),AV.int i64 (-1),AV.int i64 (-1),AV.int i64 (-1),AV.int i64 (-1),AV.int i64 (-1),AV.int i64
 (-1),AV.int i64 (-1),AV.int i64 (-1),AV.int i64 (-1),AV.int i64 (-1)][Int.toNat (bhI (↑(length a):Int) x)]? =some (AV.int i64 (gR [x0,x1,x2,x3,x4,x5,x6,x7] (bhI (↑(length a):
 Int) x)))∧(leb 0 zz0=true→leb 0 zz0=true)∧(leb 0 zz0=true→leb 0 zz0=true)∧(leb 0 zz0=true→leb 0 zz0=true)∧(leb 0 zz0=true→leb 0 zz0=true)∧(leb 0 zz0=true
 →cok a k r (length a) (length k) (length r)∧0<length a∧length a≤8∧0≤i∧i<(↑(length a):Int)∧0≤x∧x<(↑(length a):Int))∧(leb 0 zz0=true→leb 0 zz0=true)∧(leb
 0 zz0=true→leb 0 zz0=true)∧(leb 0 zz0=true→cok a k r (length a) (length k) (length r)∧0<length a∧length a≤8∧0≤x∧x<(↑(length a):Int))∧(leb 0 zz0=true→leb 0
 zz0=true)∧(leb 0 zz0=true→leb 0 zz0=true)∧(leb 0 zz0=true→leb 0 zz0=true)∧(leb 0 zz0=true→leb 0 zz0=true)∧(leb 0 zz0=true→cok a k r (length a) (length k)
 (length r)∧0<length a∧length a≤8∧0≤i∧i<(↑(length a):Int)∧0≤bhI (↑(length a):Int) x∧bhI (↑(length a):Int) x<(↑(length a):Int))∧(leb 0 zz0=true→leb 0 zz0
 =true)∧(leb 0 zz0=true→leb 0 zz0=true)∧(bif leb 0 zz0 then leb 0 zz0&&true else true)=true∧(bif leb 0 zz0 then !btwB (↑(length a):Int) [x0,x1,x2,x3,x4,x5,x6,x7]
 (bhI (↑(length a):Int) i) x==btwB (↑(length a):Int) [x0,x1,x2,x3,x4,x5,x6,x7] (bhI (↑(length a):Int) i) (bhI (↑(length a):Int) x)else false)=false∧1=1∧i=i∧1=1
 ∧false=false∧1=1∧x0=x0∧x1=x1∧x2=x2∧x3=x3∧x4=x4∧x5=x5∧x6=x6∧x7=x7∧iI (-1)= -1∧iI (-1)= -1∧iI (-1)= -1∧iI (-1)= -1∧iI (-1)= -1∧iI (-1)=
 -1∧iI (-1)= -1∧iI (-1)= -1∧iI (-1)= -1∧iI (-1)= -1∧iI (-1)= -1∧iI (-1)= -1∧iI (-1)= -1∧iI (-1)= -1∧iI (-1)= -1∧iI (-1)= -1∧iI (-1)= -1∧iI (-1)= -1∧iI
 (-1)= -1∧iI (-1)= -1∧iI (-1)= -1∧iI (-1)= -1∧iI (-1)= -1∧iI (-1)= -1∧1=1∧qs i64 a (qs u8 k (qs i64 r (0=0∧(none:Option Ex)=none∧79=79∧[52]=[52]∧as26=
 as26∧bd26=bd26∧0=0∧0=0∧0=0∧ql a (i=i∧0=0∧false=false∧Cont.vals [AV.imm (Cont.ints i64 a) (length a) none,AV.imm (Cont.ints u8 k) (length k) none,AV.imm
 (Cont.ints i64 r) (length r) none]=Cont.vals [AV.imm (Cont.ints i64 a) (length a) none,AV.imm (Cont.ints u8 k) (length k) none,AV.imm (Cont.ints i64 r) (length r) none]∧Cont.vals
 [AV.int i64 i]=Cont.vals [AV.int i64 i]∧true=true∧True))))) (if gR [x0,x1,x2,x3,x4,x5,x6,x7] (bhI (↑(length a):Int) x)<gR [x0,x1,x2,x3,x4,x5,x6,x7] x then gR [x0,
 x1,x2,x3,x4,x5,x6,x7] (bhI (↑(length a):Int) x)else gR [x0,x1,x2,x3,x4,x5,x6,x7] x)):=by kernel_rfl

theorem ob_y_40b (a k r:List Int)(x0 x1 x2 x3 x4 x5 x6 x7 i x:Int):fnY (TR3) G 10000 (9003) (.r [] 0 (.r [(898,.auto,Dr.val [AV.int i64 (gR [x0,x1,x2,x3,x4,x5,x6,x7] x)]),(903,.auto,Dr.val [AV.int i64 (gR [x0,x1,x2,x3,x4,x5,x6,x7] (bhI (↑(length a):Int) x))]),yM 907,yM 908,yM 909,yM 910,yM 911,yM 912,yM 913,yM 914,yM 915,yM 916,yM 917,yM 918,yM 919] 1074726664 (.ff .nil))) ([.int .i64 x]) (rH40 9003 a k r x0 x1 x2 x3 x4 x5 x6 x7 i) (true) (wsY a k r x0 x1 x2 x3 x4 x5 x6 x7 i false)=(
 (fun(zz0:Int)=>leb 0 x=true∧ltb x 32=true∧[AV.int i64 x0,AV.int i64 x1,AV.int i64 x2,AV.int i64 x3,AV.int i64 x4,AV.int i64 x5,AV.int i64 x6,AV.int i64 x7,AV.int i64
 (-1),AV.int i64 (-1),AV.int i64 (-1),AV.int i64 (-1),AV.int i64 (-1),AV.int i64 (-1),AV.int i64 (-1),AV.int i64 (-1),AV.int i64 (-1),AV.int i64 (-1),AV.int i64 (-1),AV.int i64
 (-1),AV.int i64 (-1),AV.int i64 (-1),AV.int i64 (-1),AV.int i64 (-1),AV.int i64 (-1),AV.int i64 (-1),AV.int i64 (-1),AV.int i64 (-1),AV.int i64 (-1),AV.int i64 (-1),AV.int i64
 (-1),AV.int i64 (-1)][Int.toNat x]? =some (AV.int i64 (gR [x0,x1,x2,x3,x4,x5,x6,x7] x))∧(cok a k r (length a) (length k) (length r)∧0<length a∧length a≤8∧0≤x∧x<
 (↑(length a):Int))∧leb 0 (bhI (↑(length a):Int) x)=true∧ltb (bhI (↑(length a):Int) x) 32=true∧[AV.int i64 x0,AV.int i64 x1,AV.int i64 x2,AV.int i64 x3,AV.int i64 x4,
 AV.int i64 x5,AV.int i64 x6,AV.int i64 x7,AV.int i64 (-1),AV.int i64 (-1),AV.int i64 (-1),AV.int i64 (-1),AV.int i64 (-1),AV.int i64 (-1),AV.int i64 (-1),AV.int i64 (-1),AV.int
 i64 (-1),AV.int i64 (-1),AV.int i64 (-1),AV.int i64 (-1),AV.int i64 (-1),AV.int i64 (-1),AV.int i64 (-1),AV.int i64 (-1),AV.int i64 (-1),AV.int i64 (-1),AV.int i64 (-1),AV.int i64
 (-1),AV.int i64 (-1),AV.int i64 (-1),AV.int i64 (-1),AV.int i64 (-1)][Int.toNat (bhI (↑(length a):Int) x)]? =some (AV.int i64 (gR [x0,x1,x2,x3,x4,x5,x6,x7] (bhI (↑(length a):
 Int) x)))∧(leb 0 zz0=true→leb 0 zz0=true)∧(leb 0 zz0=true→leb 0 zz0=true)∧(leb 0 zz0=true→leb 0 zz0=true)∧(leb 0 zz0=true→leb 0 zz0=true)∧(leb 0 zz0=true
 →cok a k r (length a) (length k) (length r)∧0<length a∧length a≤8∧0≤i∧i<(↑(length a):Int)∧0≤x∧x<(↑(length a):Int))∧(leb 0 zz0=true→leb 0 zz0=true)∧(leb
 0 zz0=true→leb 0 zz0=true)∧(leb 0 zz0=true→cok a k r (length a) (length k) (length r)∧0<length a∧length a≤8∧0≤x∧x<(↑(length a):Int))∧(leb 0 zz0=true→leb 0
 zz0=true)∧(leb 0 zz0=true→leb 0 zz0=true)∧(leb 0 zz0=true→leb 0 zz0=true)∧(leb 0 zz0=true→leb 0 zz0=true)∧(leb 0 zz0=true→cok a k r (length a) (length k)
 (length r)∧0<length a∧length a≤8∧0≤i∧i<(↑(length a):Int)∧0≤bhI (↑(length a):Int) x∧bhI (↑(length a):Int) x<(↑(length a):Int))∧(leb 0 zz0=true→leb 0 zz0
 =true)∧(leb 0 zz0=true→leb 0 zz0=true)∧(bif leb 0 zz0 then leb 0 zz0&&true else true)=true∧(bif leb 0 zz0 then !btwB (↑(length a):Int) [x0,x1,x2,x3,x4,x5,x6,x7]
 (bhI (↑(length a):Int) i) x==btwB (↑(length a):Int) [x0,x1,x2,x3,x4,x5,x6,x7] (bhI (↑(length a):Int) i) (bhI (↑(length a):Int) x)else false)=false∧1=1∧i=i∧1=1
 ∧false=false∧1=1∧x0=x0∧x1=x1∧x2=x2∧x3=x3∧x4=x4∧x5=x5∧x6=x6∧x7=x7∧iI (-1)= -1∧iI (-1)= -1∧iI (-1)= -1∧iI (-1)= -1∧iI (-1)= -1∧iI (-1)=
 -1∧iI (-1)= -1∧iI (-1)= -1∧iI (-1)= -1∧iI (-1)= -1∧iI (-1)= -1∧iI (-1)= -1∧iI (-1)= -1∧iI (-1)= -1∧iI (-1)= -1∧iI (-1)= -1∧iI (-1)= -1∧iI (-1)= -1∧iI
 (-1)= -1∧iI (-1)= -1∧iI (-1)= -1∧iI (-1)= -1∧iI (-1)= -1∧iI (-1)= -1∧1=1∧qs i64 a (qs u8 k (qs i64 r (0=0∧(none:Option Ex)=none∧79=79∧[52]=[52]∧as26=
 as26∧bd26=bd26∧0=0∧0=0∧0=0∧ql a (i=i∧0=0∧false=false∧Cont.vals [AV.imm (Cont.ints i64 a) (length a) none,AV.imm (Cont.ints u8 k) (length k) none,AV.imm
 (Cont.ints i64 r) (length r) none]=Cont.vals [AV.imm (Cont.ints i64 a) (length a) none,AV.imm (Cont.ints u8 k) (length k) none,AV.imm (Cont.ints i64 r) (length r) none]∧Cont.vals
 [AV.int i64 i]=Cont.vals [AV.int i64 i]∧true=true∧True))))) (if gR [x0,x1,x2,x3,x4,x5,x6,x7] (bhI (↑(length a):Int) x)<gR [x0,x1,x2,x3,x4,x5,x6,x7] x then gR [x0,
 x1,x2,x3,x4,x5,x6,x7] (bhI (↑(length a):Int) x)else gR [x0,x1,x2,x3,x4,x5,x6,x7] x)):=by kernel_rfl

theorem ob_y_40c (a k r:List Int)(x0 x1 x2 x3 x4 x5 x6 x7 i x:Int):fnY (TR3) G 10000 (9003) (.r [] 0 (.r [(898,.auto,Dr.val [AV.int i64 (gR [x0,x1,x2,x3,x4,x5,x6,x7] x)]),(903,.auto,Dr.val [AV.int i64 (gR [x0,x1,x2,x3,x4,x5,x6,x7] (bhI (↑(length a):Int) x))]),yM 907,yM 908,yM 909,yM 910,yM 911,yM 912,yM 913,yM 914,yM 915,yM 916,yM 917,yM 918,yM 919] 1074726664 (.tt (.r [] 1 .nil)))) ([.int .i64 x]) (rH40 9003 a k r x0 x1 x2 x3 x4 x5 x6 x7 i) (false) (wsY a k r x0 x1 x2 x3 x4 x5 x6 x7 i true)=(
 (fun(zz0:Int)=>leb 0 x=true∧ltb x 32=true∧[AV.int i64 x0,AV.int i64 x1,AV.int i64 x2,AV.int i64 x3,AV.int i64 x4,AV.int i64 x5,AV.int i64 x6,AV.int i64 x7,AV.int i64
 (-1),AV.int i64 (-1),AV.int i64 (-1),AV.int i64 (-1),AV.int i64 (-1),AV.int i64 (-1),AV.int i64 (-1),AV.int i64 (-1),AV.int i64 (-1),AV.int i64 (-1),AV.int i64 (-1),AV.int i64
 (-1),AV.int i64 (-1),AV.int i64 (-1),AV.int i64 (-1),AV.int i64 (-1),AV.int i64 (-1),AV.int i64 (-1),AV.int i64 (-1),AV.int i64 (-1),AV.int i64 (-1),AV.int i64 (-1),AV.int i64
 (-1),AV.int i64 (-1)][Int.toNat x]? =some (AV.int i64 (gR [x0,x1,x2,x3,x4,x5,x6,x7] x))∧(cok a k r (length a) (length k) (length r)∧0<length a∧length a≤8∧0≤x∧x<
 (↑(length a):Int))∧leb 0 (bhI (↑(length a):Int) x)=true∧ltb (bhI (↑(length a):Int) x) 32=true∧[AV.int i64 x0,AV.int i64 x1,AV.int i64 x2,AV.int i64 x3,AV.int i64 x4,
 AV.int i64 x5,AV.int i64 x6,AV.int i64 x7,AV.int i64 (-1),AV.int i64 (-1),AV.int i64 (-1),AV.int i64 (-1),AV.int i64 (-1),AV.int i64 (-1),AV.int i64 (-1),AV.int i64 (-1),AV.int
 i64 (-1),AV.int i64 (-1),AV.int i64 (-1),AV.int i64 (-1),AV.int i64 (-1),AV.int i64 (-1),AV.int i64 (-1),AV.int i64 (-1),AV.int i64 (-1),AV.int i64 (-1),AV.int i64 (-1),AV.int i64
 (-1),AV.int i64 (-1),AV.int i64 (-1),AV.int i64 (-1),AV.int i64 (-1)][Int.toNat (bhI (↑(length a):Int) x)]? =some (AV.int i64 (gR [x0,x1,x2,x3,x4,x5,x6,x7] (bhI (↑(length a):
 Int) x)))∧(leb 0 zz0=true→leb 0 zz0=true)∧(leb 0 zz0=true→leb 0 zz0=true)∧(leb 0 zz0=true→leb 0 zz0=true)∧(leb 0 zz0=true→leb 0 zz0=true)∧(leb 0 zz0=true
 →cok a k r (length a) (length k) (length r)∧0<length a∧length a≤8∧0≤i∧i<(↑(length a):Int)∧0≤x∧x<(↑(length a):Int))∧(leb 0 zz0=true→leb 0 zz0=true)∧(leb
 0 zz0=true→leb 0 zz0=true)∧(leb 0 zz0=true→cok a k r (length a) (length k) (length r)∧0<length a∧length a≤8∧0≤x∧x<(↑(length a):Int))∧(leb 0 zz0=true→leb 0
 zz0=true)∧(leb 0 zz0=true→leb 0 zz0=true)∧(leb 0 zz0=true→leb 0 zz0=true)∧(leb 0 zz0=true→leb 0 zz0=true)∧(leb 0 zz0=true→cok a k r (length a) (length k)
 (length r)∧0<length a∧length a≤8∧0≤i∧i<(↑(length a):Int)∧0≤bhI (↑(length a):Int) x∧bhI (↑(length a):Int) x<(↑(length a):Int))∧(leb 0 zz0=true→leb 0 zz0
 =true)∧(leb 0 zz0=true→leb 0 zz0=true)∧(bif leb 0 zz0 then leb 0 zz0&&true else true)=true∧(bif leb 0 zz0 then !btwB (↑(length a):Int) [x0,x1,x2,x3,x4,x5,x6,x7]
 (bhI (↑(length a):Int) i) x==btwB (↑(length a):Int) [x0,x1,x2,x3,x4,x5,x6,x7] (bhI (↑(length a):Int) i) (bhI (↑(length a):Int) x)else false)=true∧1=1∧i=i∧1=1
 ∧true=true∧1=1∧x0=x0∧x1=x1∧x2=x2∧x3=x3∧x4=x4∧x5=x5∧x6=x6∧x7=x7∧iI (-1)= -1∧iI (-1)= -1∧iI (-1)= -1∧iI (-1)= -1∧iI (-1)= -1∧iI (-1)=
 -1∧iI (-1)= -1∧iI (-1)= -1∧iI (-1)= -1∧iI (-1)= -1∧iI (-1)= -1∧iI (-1)= -1∧iI (-1)= -1∧iI (-1)= -1∧iI (-1)= -1∧iI (-1)= -1∧iI (-1)= -1∧iI (-1)= -1∧iI
 (-1)= -1∧iI (-1)= -1∧iI (-1)= -1∧iI (-1)= -1∧iI (-1)= -1∧iI (-1)= -1∧1=1∧qs i64 a (qs u8 k (qs i64 r (2=2∧qx (some Ex.ret) (79=79∧[52]=[52]∧as26=as26∧
 bd26=bd26∧0=0∧0=0∧0=0∧ql a (i=i∧0=0∧false=false∧Cont.vals [AV.imm (Cont.ints i64 a) (length a) none,AV.imm (Cont.ints u8 k) (length k) none,AV.imm (Cont.ints
 i64 r) (length r) none]=Cont.vals [AV.imm (Cont.ints i64 a) (length a) none,AV.imm (Cont.ints u8 k) (length k) none,AV.imm (Cont.ints i64 r) (length r) none]∧Cont.vals [AV.int i64 i]=
 Cont.vals [AV.int i64 i]∧false=false∧True)))))) (if gR [x0,x1,x2,x3,x4,x5,x6,x7] (bhI (↑(length a):Int) x)<gR [x0,x1,x2,x3,x4,x5,x6,x7] x then gR [x0,x1,x2,x3,x4,
 x5,x6,x7] (bhI (↑(length a):Int) x)else gR [x0,x1,x2,x3,x4,x5,x6,x7] x)):=by kernel_rfl

theorem ob_d_86n (a k r:List Int)(x0 x1 x2 x3 x4 x5 x6 x7 i:Int):fnD (TRn a k r x0 x1 x2 x3 x4 x5 x6 x7 i) G 10000 (fe57) (.r [] 3 (.r [] 1 (.lp (l86n a k r x0 x1 x2 x3 x4 x5 x6 x7 i) [] [] (fun b=>(.r [] 0 (.cnd (.r [] 0 (.br (b.i !=i) (.br (gR r (b.i+1)==gR r (i+1)) (.br (ltb (gR r (i+1)) (gR r b.i)==ltb (gR r (i+1)) (gR r i)) (.r [yO 324,yO 325,yO 326,yO 327,yO 328,yO 329,yO 330,yO 331,(332,.auto,Dr.pk true),yO 334,yO 335,yO 336,yO 337,yO 338,yO 339,yO 340,yO 341,yO 342,yO 343,yO 344,yO 345,yO 346,yO 347,yO 348,(349,.auto,Dr.pk true),yO 351,yO 352,(353,.on,Dr.heap),yO 354,(355,.auto,Dr.pk true)] 22605980543123465 (.lit (.r [] 0 .nil))) (.r [yO 324,yO 325,yO 326,yO 327,yO 328,yO 329,yO 330,yO 331,(332,.auto,Dr.pk true),yO 334,yO 335,yO 336,yO 337,yO 338,yO 339,yO 340,yO 341,yO 342,yO 343,yO 344,yO 345,yO 346,yO 347,yO 348,(349,.auto,Dr.pk true),(351,.off,Dr.plain),(352,.off,Dr.plain),(353,.off,Dr.plain),(354,.off,Dr.plain),(355,.auto,Dr.pk false)] 11346981474697225 (.lit (.r [] 0 .nil)))) (.r [yO 324,yO 325,yO 326,yO 327,yO 328,yO 329,yO 330,yO 331,(332,.auto,Dr.pk true),(334,.off,Dr.plain),(335,.off,Dr.plain),(336,.off,Dr.plain),(337,.off,Dr.plain),(338,.off,Dr.plain),(339,.off,Dr.plain),(340,.off,Dr.plain),(341,.off,Dr.plain),(342,.off,Dr.plain),(343,.off,Dr.plain),(344,.off,Dr.plain),(345,.off,Dr.plain),(346,.off,Dr.plain),(347,.off,Dr.plain),(348,.off,Dr.plain),(349,.auto,Dr.pk false),(351,.off,Dr.plain),(352,.off,Dr.plain),(353,.off,Dr.plain),(354,.off,Dr.plain),(355,.auto,Dr.pk false)] 8770323382281 (.lit (.r [] 0 .nil)))) (.r [(324,.off,Dr.plain),(325,.off,Dr.plain),(326,.off,Dr.plain),(327,.off,Dr.plain),(328,.off,Dr.plain),(329,.off,Dr.plain),(330,.off,Dr.plain),(331,.off,Dr.plain),(332,.auto,Dr.pk false),(334,.off,Dr.plain),(335,.off,Dr.plain),(336,.off,Dr.plain),(337,.off,Dr.plain),(338,.off,Dr.plain),(339,.off,Dr.plain),(340,.off,Dr.plain),(341,.off,Dr.plain),(342,.off,Dr.plain),(343,.off,Dr.plain),(344,.off,Dr.plain),(345,.off,Dr.plain),(346,.off,Dr.plain),(347,.off,Dr.plain),(348,.off,Dr.plain),(349,.auto,Dr.pk false),(351,.off,Dr.plain),(352,.off,Dr.plain),(353,.off,Dr.plain),(354,.off,Dr.plain),(355,.auto,Dr.pk false)] 137438951937 (.lit (.r [] 0 .nil))))) .nil)))))) ([.yld 9002,.iptr (conF a k r),.iptr (.vals [.int .i64 i])]) (rH40 9002 a k r x0 x1 x2 x3 x4 x5 x6 x7 i) ([]) ([])=(
 (fun(zz2:Int)=>inR i64 (i+1)=true∧rd i64 r (i+1) (1=1∧i=i∧1=1∧false=false∧1=1∧x0=x0∧x1=x1∧x2=x2∧x3=x3∧x4=x4∧x5=x5∧x6=x6∧x7=x7∧
 iI (-1)= -1∧iI (-1)= -1∧iI (-1)= -1∧iI (-1)= -1∧iI (-1)= -1∧iI (-1)= -1∧iI (-1)= -1∧iI (-1)= -1∧iI (-1)= -1∧iI (-1)= -1∧iI (-1)= -1∧iI (-1)= -1∧iI (-1)=
 -1∧iI (-1)= -1∧iI (-1)= -1∧iI (-1)= -1∧iI (-1)= -1∧iI (-1)= -1∧iI (-1)= -1∧iI (-1)= -1∧iI (-1)= -1∧iI (-1)= -1∧iI (-1)= -1∧iI (-1)= -1∧1=1∧qs i64 a (qs
 u8 k (qs i64 r (0=0∧(none:Option Ex)=none∧79=79∧[52]=[52]∧as26=as26∧bd26=bd26∧0=0∧0=0∧0=0∧ql a (i=i∧0=0∧false=false∧Cont.vals [AV.imm
 (Cont.ints i64 a) (length a) none,AV.imm (Cont.ints u8 k) (length k) none,AV.imm (Cont.ints i64 r) (length r) none]=Cont.vals [AV.imm (Cont.ints i64 a) (length a) none,AV.imm (Cont.ints
 u8 k) (length k) none,AV.imm (Cont.ints i64 r) (length r) none]∧Cont.vals [AV.int i64 i]=Cont.vals [AV.int i64 i]∧Cont.vals [AV.imm (Cont.ints i64 a) (length a) none,AV.imm
 (Cont.ints u8 k) (length k) none,AV.imm (Cont.ints i64 r) (length r) none]=Cont.vals [AV.imm (Cont.ints i64 a) (length a) none,AV.imm (Cont.ints u8 k) (length k) none,AV.imm (Cont.ints
 i64 r) (length r) none]∧Cont.vals [AV.int i64 i]=Cont.vals [AV.int i64 i]∧qx zz2 (ql a (iI 0=0∧(∃(m:Nat),0=(↑m:Int)∧m≤length a)∧∀(b:L83),(fun(zz7:Bool)=>(fun
 (zz4:List Int)=>(fun(zz3:Prop)=>(fun(zz1:Bool)=>(fun(zz0:Bool)=>(fun(u0 u1 u2:Int)=>(fun(zz6:Bool)=>(fun(zz5:Bool)=>(∃(m:Nat),b.i=(↑m:Int)∧m≤
 length a)→(ltb b.i (↑(length a):Int)=true→((b.i !=i)=true→((gR r (b.i+1)==gR r (i+1))=true→(zz7=true→(b.i !=i)=true∧(b.i !=i)=true∧(b.i !=i)=true∧
 (b.i !=i)=true∧inR i64 (b.i+1)=true∧(b.i !=i)=true∧leb 0 (b.i+1)=true∧ltb (b.i+1) (↑(length r):Int)=true∧ltn 0 (Cont.size (Cont.ints i64 r))=true∧(b.i !=i)
 =true∧ltn 0 (Cont.size (Cont.ints i64 zz4))=true∧(b.i !=i)=true∧(b.i !=i)=true∧(b.i !=i)=true∧zz0=true∧zz0=true∧zz0=true∧zz0=true∧leb 0 b.i=true∧ltb
 b.i (↑(length r):Int)=true∧ltn 0 (Cont.size (Cont.ints i64 r))=true∧zz0=true∧ltn 0 (Cont.size (Cont.ints i64 (drop (Int.toNat b.i) r)))=true∧zz0=true∧zz0=true∧zz0=
 true∧zz0=true∧zz0=true∧zz0=true∧leb 0 i=true∧ltb i (↑(length r):Int)=true∧ltn 0 (Cont.size (Cont.ints i64 r))=true∧zz0=true∧ltn 0 (Cont.size (Cont.ints i64
 (drop (Int.toNat i) r)))=true∧zz0=true∧zz0=true∧zz0=true∧zz0=true∧zz6=true∧zz6=true∧zz6=true∧([(257,HO.blk (Blk.mk (Cont.cells [AV.int i64 i]) 1 1 none (some
 false) true true)),(66,HO.blk (Blk.mk (Cont.cells [AV.bool false]) 1 1 none (some false) true true)),(65,HO.blk (Blk.mk (Cont.cells [AV.int i64 x0,AV.int i64 x1,AV.int i64 x2,AV.int
 i64 x3,AV.int i64 x4,AV.int i64 x5,AV.int i64 x6,AV.int i64 x7,AV.int i64 (-1),AV.int i64 (-1),AV.int i64 (-1),AV.int i64 (-1),AV.int i64 (-1),AV.int i64 (-1),AV.int i64 (-1),
 AV.int i64 (-1),AV.int i64 (-1),AV.int i64 (-1),AV.int i64 (-1),AV.int i64 (-1),AV.int i64 (-1),AV.int i64 (-1),AV.int i64 (-1),AV.int i64 (-1),AV.int i64 (-1),AV.int i64 (-1),
 AV.int i64 (-1),AV.int i64 (-1),AV.int i64 (-1),AV.int i64 (-1),AV.int i64 (-1),AV.int i64 (-1)]) 32 1 none (some false) true true)),(64,HO.blk (Blk.mk (Cont.cells [AV.imm (Cont.ints
 i64 a) (length a) none,AV.imm (Cont.ints u8 k) (length k) none,AV.imm (Cont.ints i64 r) (length r) none]) 3 1 none (some false) true true)),(9002,HO.loop (LoopS.mk 0 none [(2,AV.ptr 64
 0),(3,AV.ptr 65 0),(4,AV.ptr 66 0),(12,AV.int i64 (↑(length a):Int)),(13,AV.int i64 i),(5,AV.ptr 257 0),(27,AV.bool false),(51,AV.fn 57 [] [AV.iptr (Cont.vals [AV.imm
 (Cont.ints i64 a) (length a) none,AV.imm (Cont.ints u8 k) (length k) none,AV.imm (Cont.ints i64 r) (length r) none]),AV.iptr (Cont.vals [AV.int i64 i])])] 79 [52] as26 bd26))]=[(257,
 HO.blk (Blk.mk (Cont.cells [AV.int i64 i]) 1 1 none (some false) true true)),(66,HO.blk (Blk.mk (Cont.cells [AV.bool false]) 1 1 none (some false) true true)),(65,HO.blk (Blk.mk
 (Cont.cells [AV.int i64 x0,AV.int i64 x1,AV.int i64 x2,AV.int i64 x3,AV.int i64 x4,AV.int i64 x5,AV.int i64 x6,AV.int i64 x7,AV.int i64 (-1),AV.int i64 (-1),AV.int i64 (-1),AV.int
 i64 (-1),AV.int i64 (-1),AV.int i64 (-1),AV.int i64 (-1),AV.int i64 (-1),AV.int i64 (-1),AV.int i64 (-1),AV.int i64 (-1),AV.int i64 (-1),AV.int i64 (-1),AV.int i64 (-1),AV.int i64
 (-1),AV.int i64 (-1),AV.int i64 (-1),AV.int i64 (-1),AV.int i64 (-1),AV.int i64 (-1),AV.int i64 (-1),AV.int i64 (-1),AV.int i64 (-1),AV.int i64 (-1)]) 32 1 none (some false) true
 true)),(64,HO.blk (Blk.mk (Cont.cells [AV.imm (Cont.ints i64 a) (length a) none,AV.imm (Cont.ints u8 k) (length k) none,AV.imm (Cont.ints i64 r) (length r) none]) 3 1 none (some false)
 true true)),(9002,HO.loop (LoopS.mk 0 none [(2,AV.ptr 64 0),(3,AV.ptr 65 0),(4,AV.ptr 66 0),(12,AV.int i64 (↑(length a):Int)),(13,AV.int i64 i),(5,AV.ptr 257 0),(27,AV.bool
 false),(51,AV.fn 57 [] [AV.iptr (Cont.vals [AV.imm (Cont.ints i64 a) (length a) none,AV.imm (Cont.ints u8 k) (length k) none,AV.imm (Cont.ints i64 r) (length r) none]),AV.iptr
 (Cont.vals [AV.int i64 i])])] 79 [52] as26 bd26))]∧0≤b.i∧b.i<(↑(length a):Int)∧c2B (↑(length a):Int) [x0,x1,x2,x3,x4,x5,x6,x7] i b.i=false)∧zz6=true∧zz6=true∧
 inR i64 (b.i+1)=true∧1=1∧i=i∧1=1∧false=false∧1=1∧x0=x0∧x1=x1∧x2=x2∧x3=x3∧x4=x4∧x5=x5∧x6=x6∧x7=x7∧iI (-1)= -1∧iI (-1)= -1∧iI
 (-1)= -1∧iI (-1)= -1∧iI (-1)= -1∧iI (-1)= -1∧iI (-1)= -1∧iI (-1)= -1∧iI (-1)= -1∧iI (-1)= -1∧iI (-1)= -1∧iI (-1)= -1∧iI (-1)= -1∧iI (-1)= -1∧iI (-1)= -1
 ∧iI (-1)= -1∧iI (-1)= -1∧iI (-1)= -1∧iI (-1)= -1∧iI (-1)= -1∧iI (-1)= -1∧iI (-1)= -1∧iI (-1)= -1∧iI (-1)= -1∧1=1∧qs i64 a (qs u8 k (qs i64 r (0=0∧(none:
 Option Ex)=none∧79=79∧[52]=[52]∧as26=as26∧bd26=bd26∧0=0∧0=0∧0=0∧ql a (i=i∧0=0∧false=false∧Cont.vals [AV.imm (Cont.ints i64 a) (length a) none,
 AV.imm (Cont.ints u8 k) (length k) none,AV.imm (Cont.ints i64 r) (length r) none]=Cont.vals [AV.imm (Cont.ints i64 a) (length a) none,AV.imm (Cont.ints u8 k) (length k) none,AV.imm
 (Cont.ints i64 r) (length r) none]∧Cont.vals [AV.int i64 i]=Cont.vals [AV.int i64 i]∧Cont.vals [AV.imm (Cont.ints i64 a) (length a) none,AV.imm (Cont.ints u8 k) (length k) none,
 AV.imm (Cont.ints i64 r) (length r) none]=Cont.vals [AV.imm (Cont.ints i64 a) (length a) none,AV.imm (Cont.ints u8 k) (length k) none,AV.imm (Cont.ints i64 r) (length r) none]∧
 Cont.vals [AV.int i64 i]=Cont.vals [AV.int i64 i]∧qx zz2 (ql a (b.i+1=b.i+1∧zz3∧length a-Int.toNat (b.i+1)<length a-Int.toNat b.i∧True)))))))∧(zz7=false→(b.i !=
 i)=true∧(b.i !=i)=true∧(b.i !=i)=true∧(b.i !=i)=true∧inR i64 (b.i+1)=true∧(b.i !=i)=true∧leb 0 (b.i+1)=true∧ltb (b.i+1) (↑(length r):Int)=true∧ltn
 0 (Cont.size (Cont.ints i64 r))=true∧(b.i !=i)=true∧ltn 0 (Cont.size (Cont.ints i64 zz4))=true∧(b.i !=i)=true∧(b.i !=i)=true∧(b.i !=i)=true∧zz0=true∧zz0=
 true∧zz0=true∧zz0=true∧leb 0 b.i=true∧ltb b.i (↑(length r):Int)=true∧ltn 0 (Cont.size (Cont.ints i64 r))=true∧zz0=true∧ltn 0 (Cont.size (Cont.ints i64 (drop
 (Int.toNat b.i) r)))=true∧zz0=true∧zz0=true∧zz0=true∧zz0=true∧zz0=true∧zz0=true∧leb 0 i=true∧ltb i (↑(length r):Int)=true∧ltn 0 (Cont.size (Cont.ints
 i64 r))=true∧zz0=true∧ltn 0 (Cont.size (Cont.ints i64 (drop (Int.toNat i) r)))=true∧zz0=true∧zz0=true∧zz0=true∧zz0=true∧zz5=true∧zz5=true∧zz5=true∧zz5
 =true∧zz5=true∧inR i64 (b.i+1)=true∧1=1∧i=i∧1=1∧false=false∧1=1∧x0=x0∧x1=x1∧x2=x2∧x3=x3∧x4=x4∧x5=x5∧x6=x6∧x7=x7∧iI (-1)= -1
 ∧iI (-1)= -1∧iI (-1)= -1∧iI (-1)= -1∧iI (-1)= -1∧iI (-1)= -1∧iI (-1)= -1∧iI (-1)= -1∧iI (-1)= -1∧iI (-1)= -1∧iI (-1)= -1∧iI (-1)= -1∧iI (-1)= -1∧iI (-1)
 = -1∧iI (-1)= -1∧iI (-1)= -1∧iI (-1)= -1∧iI (-1)= -1∧iI (-1)= -1∧iI (-1)= -1∧iI (-1)= -1∧iI (-1)= -1∧iI (-1)= -1∧iI (-1)= -1∧1=1∧qs i64 a (qs u8 k (qs i64
 r (0=0∧(none:Option Ex)=none∧79=79∧[52]=[52]∧as26=as26∧bd26=bd26∧0=0∧0=0∧0=0∧ql a (i=i∧0=0∧false=false∧Cont.vals [AV.imm (Cont.ints i64 a)
 (length a) none,AV.imm (Cont.ints u8 k) (length k) none,AV.imm (Cont.ints i64 r) (length r) none]=Cont.vals [AV.imm (Cont.ints i64 a) (length a) none,AV.imm (Cont.ints u8 k) (length k)
 none,AV.imm (Cont.ints i64 r) (length r) none]∧Cont.vals [AV.int i64 i]=Cont.vals [AV.int i64 i]∧Cont.vals [AV.imm (Cont.ints i64 a) (length a) none,AV.imm (Cont.ints u8 k) (length
 k) none,AV.imm (Cont.ints i64 r) (length r) none]=Cont.vals [AV.imm (Cont.ints i64 a) (length a) none,AV.imm (Cont.ints u8 k) (length k) none,AV.imm (Cont.ints i64 r) (length r) none]∧
 Cont.vals [AV.int i64 i]=Cont.vals [AV.int i64 i]∧qx zz2 (ql a (b.i+1=b.i+1∧zz3∧length a-Int.toNat (b.i+1)<length a-Int.toNat b.i∧True))))))))∧((gR r (b.i+1)==
 gR r (i+1))=false→(b.i !=i)=true∧(b.i !=i)=true∧(b.i !=i)=true∧(b.i !=i)=true∧inR i64 (b.i+1)=true∧(b.i !=i)=true∧leb 0 (b.i+1)=true∧ltb (b.i+1)
 (↑(length r):Int)=true∧ltn 0 (Cont.size (Cont.ints i64 r))=true∧(b.i !=i)=true∧ltn 0 (Cont.size (Cont.ints i64 zz4))=true∧(b.i !=i)=true∧(b.i !=i)=true∧(b.i !=
 i)=true∧zz1=true∧zz1=true∧zz1=true∧zz1=true∧zz1=true∧zz1=true∧zz1=true∧zz1=true∧zz1=true∧zz1=true∧zz1=true∧zz1=true∧zz1=true∧zz1=
 true∧zz1=true∧zz1=true∧inR i64 (b.i+1)=true∧1=1∧i=i∧1=1∧false=false∧1=1∧x0=x0∧x1=x1∧x2=x2∧x3=x3∧x4=x4∧x5=x5∧x6=x6∧x7=x7∧iI
 (-1)= -1∧iI (-1)= -1∧iI (-1)= -1∧iI (-1)= -1∧iI (-1)= -1∧iI (-1)= -1∧iI (-1)= -1∧iI (-1)= -1∧iI (-1)= -1∧iI (-1)= -1∧iI (-1)= -1∧iI (-1)= -1∧iI (-1)= -1
 ∧iI (-1)= -1∧iI (-1)= -1∧iI (-1)= -1∧iI (-1)= -1∧iI (-1)= -1∧iI (-1)= -1∧iI (-1)= -1∧iI (-1)= -1∧iI (-1)= -1∧iI (-1)= -1∧iI (-1)= -1∧1=1∧qs i64 a (qs u8
 k (qs i64 r (0=0∧(none:Option Ex)=none∧79=79∧[52]=[52]∧as26=as26∧bd26=bd26∧0=0∧0=0∧0=0∧ql a (i=i∧0=0∧false=false∧Cont.vals [AV.imm
 (Cont.ints i64 a) (length a) none,AV.imm (Cont.ints u8 k) (length k) none,AV.imm (Cont.ints i64 r) (length r) none]=Cont.vals [AV.imm (Cont.ints i64 a) (length a) none,AV.imm (Cont.ints
 u8 k) (length k) none,AV.imm (Cont.ints i64 r) (length r) none]∧Cont.vals [AV.int i64 i]=Cont.vals [AV.int i64 i]∧Cont.vals [AV.imm (Cont.ints i64 a) (length a) none,AV.imm
 (Cont.ints u8 k) (length k) none,AV.imm (Cont.ints i64 r) (length r) none]=Cont.vals [AV.imm (Cont.ints i64 a) (length a) none,AV.imm (Cont.ints u8 k) (length k) none,AV.imm (Cont.ints
 i64 r) (length r) none]∧Cont.vals [AV.int i64 i]=Cont.vals [AV.int i64 i]∧qx zz2 (ql a (b.i+1=b.i+1∧zz3∧length a-Int.toNat (b.i+1)<length a-Int.toNat b.i∧
 True))))))))∧((b.i !=i)=false→(!b.i !=i)=true∧(!b.i !=i)=true∧(!b.i !=i)=true∧(!b.i !=i)=true∧(!b.i !=i)=true∧(!b.i !=i)=true∧(!b.i !=i)=true∧(!b.i
 !=i)=true∧(!b.i !=i)=true∧inR i64 (b.i+1)=true∧1=1∧i=i∧1=1∧false=false∧1=1∧x0=x0∧x1=x1∧x2=x2∧x3=x3∧x4=x4∧x5=x5∧x6=x6∧x7=x7∧
 iI (-1)= -1∧iI (-1)= -1∧iI (-1)= -1∧iI (-1)= -1∧iI (-1)= -1∧iI (-1)= -1∧iI (-1)= -1∧iI (-1)= -1∧iI (-1)= -1∧iI (-1)= -1∧iI (-1)= -1∧iI (-1)= -1∧iI (-1)=
 -1∧iI (-1)= -1∧iI (-1)= -1∧iI (-1)= -1∧iI (-1)= -1∧iI (-1)= -1∧iI (-1)= -1∧iI (-1)= -1∧iI (-1)= -1∧iI (-1)= -1∧iI (-1)= -1∧iI (-1)= -1∧1=1∧qs i64 a (qs
 u8 k (qs i64 r (0=0∧(none:Option Ex)=none∧79=79∧[52]=[52]∧as26=as26∧bd26=bd26∧0=0∧0=0∧0=0∧ql a (i=i∧0=0∧false=false∧Cont.vals [AV.imm
 (Cont.ints i64 a) (length a) none,AV.imm (Cont.ints u8 k) (length k) none,AV.imm (Cont.ints i64 r) (length r) none]=Cont.vals [AV.imm (Cont.ints i64 a) (length a) none,AV.imm (Cont.ints
 u8 k) (length k) none,AV.imm (Cont.ints i64 r) (length r) none]∧Cont.vals [AV.int i64 i]=Cont.vals [AV.int i64 i]∧Cont.vals [AV.imm (Cont.ints i64 a) (length a) none,AV.imm
 (Cont.ints u8 k) (length k) none,AV.imm (Cont.ints i64 r) (length r) none]=Cont.vals [AV.imm (Cont.ints i64 a) (length a) none,AV.imm (Cont.ints u8 k) (length k) none,AV.imm (Cont.ints
 i64 r) (length r) none]∧Cont.vals [AV.int i64 i]=Cont.vals [AV.int i64 i]∧qx zz2 (ql a (b.i+1=b.i+1∧zz3∧length a-Int.toNat (b.i+1)<length a-Int.toNat b.i∧
 True))))))))∧(ltb b.i (↑(length a):Int)=false→1=1∧i=i∧1=1∧false=false∧1=1∧x0=x0∧x1=x1∧x2=x2∧x3=x3∧x4=x4∧x5=x5∧x6=x6∧x7=x7∧iI (-1)
 = -1∧iI (-1)= -1∧iI (-1)= -1∧iI (-1)= -1∧iI (-1)= -1∧iI (-1)= -1∧iI (-1)= -1∧iI (-1)= -1∧iI (-1)= -1∧iI (-1)= -1∧iI (-1)= -1∧iI (-1)= -1∧iI (-1)= -1∧iI
 (-1)= -1∧iI (-1)= -1∧iI (-1)= -1∧iI (-1)= -1∧iI (-1)= -1∧iI (-1)= -1∧iI (-1)= -1∧iI (-1)= -1∧iI (-1)= -1∧iI (-1)= -1∧iI (-1)= -1∧1=1∧qs i64 a (qs u8 k
 (qs i64 r (0=0∧(none:Option Ex)=none∧79=79∧[52]=[52]∧as26=as26∧bd26=bd26∧0=0∧0=0∧0=0∧ql a (i=i∧0=0∧false=false∧Cont.vals [AV.imm (Cont.ints
 i64 a) (length a) none,AV.imm (Cont.ints u8 k) (length k) none,AV.imm (Cont.ints i64 r) (length r) none]=Cont.vals [AV.imm (Cont.ints i64 a) (length a) none,AV.imm (Cont.ints u8 k)
 (length k) none,AV.imm (Cont.ints i64 r) (length r) none]∧Cont.vals [AV.int i64 i]=Cont.vals [AV.int i64 i]∧True)))))) (!ltb u0 u1==ltb u0 u2)) (ltb u0 u1==ltb u0 u2)) zz2 (getD
 (drop (Int.toNat b.i) r) 0 0) (getD (drop (Int.toNat i) r) 0 0)) (getD zz4 0 0==getD (drop (Int.toNat (i+1)) r) 0 0)) (!getD zz4 0 0==getD (drop (Int.toNat (i+1)) r) 0 0)) (∃(m:
 Nat),b.i+1=(↑m:Int)∧m≤length a)) (drop (Int.toNat (b.i+1)) r)) (ltb (gR r (i+1)) (gR r b.i)==ltb (gR r (i+1)) (gR r i)))))))))) (getD (drop (Int.toNat (i+1)) r) 0 0)):=by kernel_rfl

theorem ob_d_86y (a k r:List Int)(x0 x1 x2 x3 x4 x5 x6 x7 i:Int):fnD (TRy a k r x0 x1 x2 x3 x4 x5 x6 x7 i) G 10000 (fe57) (.r [] 3 (.r [] 1 (.lp (l86y a k r x0 x1 x2 x3 x4 x5 x6 x7 i) [] [] (fun b=>(.r [] 0 (.cnd (.r [] 0 (.br (b.i !=i) (.br (gR r (b.i+1)==gR r (i+1)) (.br (ltb (gR r (i+1)) (gR r b.i)==ltb (gR r (i+1)) (gR r i)) (.r [yO 324,yO 325,yO 326,yO 327,yO 328,yO 329,yO 330,yO 331,(332,.auto,Dr.pk true),yO 334,yO 335,yO 336,yO 337,yO 338,yO 339,yO 340,yO 341,yO 342,yO 343,yO 344,yO 345,yO 346,yO 347,yO 348,(349,.auto,Dr.pk true),yO 351,yO 352,(353,.on,Dr.heap),yO 354,(355,.auto,Dr.pk true)] 22605980543123465 (.cnd .nil (.r [] 0 .nil))) (.r [yO 324,yO 325,yO 326,yO 327,yO 328,yO 329,yO 330,yO 331,(332,.auto,Dr.pk true),yO 334,yO 335,yO 336,yO 337,yO 338,yO 339,yO 340,yO 341,yO 342,yO 343,yO 344,yO 345,yO 346,yO 347,yO 348,(349,.auto,Dr.pk true),(351,.off,Dr.plain),(352,.off,Dr.plain),(353,.off,Dr.plain),(354,.off,Dr.plain),(355,.auto,Dr.pk false)] 11346981474697225 (.lit (.r [] 0 .nil)))) (.r [yO 324,yO 325,yO 326,yO 327,yO 328,yO 329,yO 330,yO 331,(332,.auto,Dr.pk true),(334,.off,Dr.plain),(335,.off,Dr.plain),(336,.off,Dr.plain),(337,.off,Dr.plain),(338,.off,Dr.plain),(339,.off,Dr.plain),(340,.off,Dr.plain),(341,.off,Dr.plain),(342,.off,Dr.plain),(343,.off,Dr.plain),(344,.off,Dr.plain),(345,.off,Dr.plain),(346,.off,Dr.plain),(347,.off,Dr.plain),(348,.off,Dr.plain),(349,.auto,Dr.pk false),(351,.off,Dr.plain),(352,.off,Dr.plain),(353,.off,Dr.plain),(354,.off,Dr.plain),(355,.auto,Dr.pk false)] 8770323382281 (.lit (.r [] 0 .nil)))) (.r [(324,.off,Dr.plain),(325,.off,Dr.plain),(326,.off,Dr.plain),(327,.off,Dr.plain),(328,.off,Dr.plain),(329,.off,Dr.plain),(330,.off,Dr.plain),(331,.off,Dr.plain),(332,.auto,Dr.pk false),(334,.off,Dr.plain),(335,.off,Dr.plain),(336,.off,Dr.plain),(337,.off,Dr.plain),(338,.off,Dr.plain),(339,.off,Dr.plain),(340,.off,Dr.plain),(341,.off,Dr.plain),(342,.off,Dr.plain),(343,.off,Dr.plain),(344,.off,Dr.plain),(345,.off,Dr.plain),(346,.off,Dr.plain),(347,.off,Dr.plain),(348,.off,Dr.plain),(349,.auto,Dr.pk false),(351,.off,Dr.plain),(352,.off,Dr.plain),(353,.off,Dr.plain),(354,.off,Dr.plain),(355,.auto,Dr.pk false)] 137438951937 (.lit (.r [] 0 .nil))))) .nil)))))) ([.yld 9003,.iptr (conF a k r),.iptr (.vals [.int .i64 i])]) (rH40 9003 a k r x0 x1 x2 x3 x4 x5 x6 x7 i) ([]) (rW40 9003 a k r x0 x1 x2 x3 x4 x5 x6 x7 i)=(
 (fun(zz3:Int)=>inR i64 (i+1)=true∧rd i64 r (i+1) (1=1∧i=i∧1=1∧false=false∧1=1∧x0=x0∧x1=x1∧x2=x2∧x3=x3∧x4=x4∧x5=x5∧x6=x6∧x7=x7∧
 iI (-1)= -1∧iI (-1)= -1∧iI (-1)= -1∧iI (-1)= -1∧iI (-1)= -1∧iI (-1)= -1∧iI (-1)= -1∧iI (-1)= -1∧iI (-1)= -1∧iI (-1)= -1∧iI (-1)= -1∧iI (-1)= -1∧iI (-1)=
 -1∧iI (-1)= -1∧iI (-1)= -1∧iI (-1)= -1∧iI (-1)= -1∧iI (-1)= -1∧iI (-1)= -1∧iI (-1)= -1∧iI (-1)= -1∧iI (-1)= -1∧iI (-1)= -1∧iI (-1)= -1∧1=1∧qs i64 a (qs
 u8 k (qs i64 r (0=0∧(none:Option Ex)=none∧79=79∧[52]=[52]∧as26=as26∧bd26=bd26∧0=0∧0=0∧0=0∧ql a (i=i∧0=0∧false=false∧Cont.vals [AV.imm
 (Cont.ints i64 a) (length a) none,AV.imm (Cont.ints u8 k) (length k) none,AV.imm (Cont.ints i64 r) (length r) none]=Cont.vals [AV.imm (Cont.ints i64 a) (length a) none,AV.imm (Cont.ints
 u8 k) (length k) none,AV.imm (Cont.ints i64 r) (length r) none]∧Cont.vals [AV.int i64 i]=Cont.vals [AV.int i64 i]∧Cont.vals [AV.imm (Cont.ints i64 a) (length a) none,AV.imm
 (Cont.ints u8 k) (length k) none,AV.imm (Cont.ints i64 r) (length r) none]=Cont.vals [AV.imm (Cont.ints i64 a) (length a) none,AV.imm (Cont.ints u8 k) (length k) none,AV.imm (Cont.ints
 i64 r) (length r) none]∧Cont.vals [AV.int i64 i]=Cont.vals [AV.int i64 i]∧qx zz3 (ql a (iI 0=0∧(∃(m:Nat),0=(↑m:Int)∧m≤length a∧∃(q:Nat),m≤q∧q<length a∧
 besB r i (↑q:Int)=true∧c2B (↑(length a):Int) [x0,x1,x2,x3,x4,x5,x6,x7] i (↑q:Int)=true)∧∀(b:L83),(fun(zz8:Bool)=>(fun(zz7:Bool)=>(fun(zz4:List Int)=>
 (fun(zz2:Prop)=>(fun(zz1:Bool)=>(fun(zz0:Bool)=>(fun(u0 u1 u2:Int)=>(fun(zz6:Bool)=>(fun(zz5:Bool)=>(∃(m:Nat),b.i=(↑m:Int)∧m≤length a∧∃(q:Nat),
 m≤q∧q<length a∧besB r i (↑q:Int)=true∧c2B (↑(length a):Int) [x0,x1,x2,x3,x4,x5,x6,x7] i (↑q:Int)=true)→(ltb b.i (↑(length a):Int)=true→((b.i !=i)=true→
 ((gR r (b.i+1)==gR r (i+1))=true→(zz8=true→(b.i !=i)=true∧(b.i !=i)=true∧(b.i !=i)=true∧(b.i !=i)=true∧inR i64 (b.i+1)=true∧(b.i !=i)=true∧leb 0
 (b.i+1)=true∧ltb (b.i+1) (↑(length r):Int)=true∧ltn 0 (Cont.size (Cont.ints i64 r))=true∧(b.i !=i)=true∧ltn 0 (Cont.size (Cont.ints i64 zz4))=true∧(b.i !=i)=
 true∧(b.i !=i)=true∧(b.i !=i)=true∧zz0=true∧zz0=true∧zz0=true∧zz0=true∧leb 0 b.i=true∧ltb b.i (↑(length r):Int)=true∧ltn 0 (Cont.size (Cont.ints i64 r))
 =true∧zz0=true∧ltn 0 (Cont.size (Cont.ints i64 (drop (Int.toNat b.i) r)))=true∧zz0=true∧zz0=true∧zz0=true∧zz0=true∧zz0=true∧zz0=true∧leb 0 i=true∧ltb i
 (↑(length r):Int)=true∧ltn 0 (Cont.size (Cont.ints i64 r))=true∧zz0=true∧ltn 0 (Cont.size (Cont.ints i64 (drop (Int.toNat i) r)))=true∧zz0=true∧zz0=true∧zz0=true
 ∧zz0=true∧zz6=true∧zz6=true∧zz6=true∧([(257,HO.blk (Blk.mk (Cont.cells [AV.int i64 i]) 1 1 none (some false) true true)),(66,HO.blk (Blk.mk (Cont.cells [AV.bool false]) 1
 1 none (some false) true true)),(65,HO.blk (Blk.mk (Cont.cells [AV.int i64 x0,AV.int i64 x1,AV.int i64 x2,AV.int i64 x3,AV.int i64 x4,AV.int i64 x5,AV.int i64 x6,AV.int i64 x7,
 AV.int i64 (-1),AV.int i64 (-1),AV.int i64 (-1),AV.int i64 (-1),AV.int i64 (-1),AV.int i64 (-1),AV.int i64 (-1),AV.int i64 (-1),AV.int i64 (-1),AV.int i64 (-1),AV.int i64 (-1),
 AV.int i64 (-1),AV.int i64 (-1),AV.int i64 (-1),AV.int i64 (-1),AV.int i64 (-1),AV.int i64 (-1),AV.int i64 (-1),AV.int i64 (-1),AV.int i64 (-1),AV.int i64 (-1),AV.int i64 (-1),
 AV.int i64 (-1),AV.int i64 (-1)]) 32 1 none (some false) true true)),(64,HO.blk (Blk.mk (Cont.cells [AV.imm (Cont.ints i64 a) (length a) none,AV.imm (Cont.ints u8 k) (length k) none,
 AV.imm (Cont.ints i64 r) (length r) none]) 3 1 none (some false) true true)),(9003,HO.loop (LoopS.mk 0 none [(2,AV.ptr 64 0),(3,AV.ptr 65 0),(4,AV.ptr 66 0),(12,AV.int i64 (↑(length
 a):Int)),(13,AV.int i64 i),(5,AV.ptr 257 0),(27,AV.bool false),(51,AV.fn 57 [] [AV.iptr (Cont.vals [AV.imm (Cont.ints i64 a) (length a) none,AV.imm (Cont.ints u8 k) (length k)
 none,AV.imm (Cont.ints i64 r) (length r) none]),AV.iptr (Cont.vals [AV.int i64 i])])] 79 [52] as26 bd26))]=[(257,HO.blk (Blk.mk (Cont.cells [AV.int i64 i]) 1 1 none (some false) true
 true)),(66,HO.blk (Blk.mk (Cont.cells [AV.bool false]) 1 1 none (some false) true true)),(65,HO.blk (Blk.mk (Cont.cells [AV.int i64 x0,AV.int i64 x1,AV.int i64 x2,AV.int i64 x3,
 AV.int i64 x4,AV.int i64 x5,AV.int i64 x6,AV.int i64 x7,AV.int i64 (-1),AV.int i64 (-1),AV.int i64 (-1),AV.int i64 (-1),AV.int i64 (-1),AV.int i64 (-1),AV.int i64 (-1),AV.int i64
 (-1),AV.int i64 (-1),AV.int i64 (-1),AV.int i64 (-1),AV.int i64 (-1),AV.int i64 (-1),AV.int i64 (-1),AV.int i64 (-1),AV.int i64 (-1),AV.int i64 (-1),AV.int i64 (-1),AV.int i64
 (-1),AV.int i64 (-1),AV.int i64 (-1),AV.int i64 (-1),AV.int i64 (-1),AV.int i64 (-1)]) 32 1 none (some false) true true)),(64,HO.blk (Blk.mk (Cont.cells [AV.imm (Cont.ints i64 a)
 (length a) none,AV.imm (Cont.ints u8 k) (length k) none,AV.imm (Cont.ints i64 r) (length r) none]) 3 1 none (some false) true true)),(9003,HO.loop (LoopS.mk 0 none [(2,AV.ptr 64 0),(3,
 AV.ptr 65 0),(4,AV.ptr 66 0),(12,AV.int i64 (↑(length a):Int)),(13,AV.int i64 i),(5,AV.ptr 257 0),(27,AV.bool false),(51,AV.fn 57 [] [AV.iptr (Cont.vals [AV.imm (Cont.ints i64
 a) (length a) none,AV.imm (Cont.ints u8 k) (length k) none,AV.imm (Cont.ints i64 r) (length r) none]),AV.iptr (Cont.vals [AV.int i64 i])])] 79 [52] as26 bd26))]∧0≤b.i∧b.i<
 (↑(length a):Int))∧zz6=true∧zz6=true∧(zz7=true→1=1∧i=i∧1=1∧c2B (↑(length a):Int) [x0,x1,x2,x3,x4,x5,x6,x7] i b.i=true∧1=1∧x0=x0∧x1=x1∧x2
 =x2∧x3=x3∧x4=x4∧x5=x5∧x6=x6∧x7=x7∧iI (-1)= -1∧iI (-1)= -1∧iI (-1)= -1∧iI (-1)= -1∧iI (-1)= -1∧iI (-1)= -1∧iI (-1)= -1∧iI (-1)= -1∧iI (-1)= -1
 ∧iI (-1)= -1∧iI (-1)= -1∧iI (-1)= -1∧iI (-1)= -1∧iI (-1)= -1∧iI (-1)= -1∧iI (-1)= -1∧iI (-1)= -1∧iI (-1)= -1∧iI (-1)= -1∧iI (-1)= -1∧iI (-1)= -1∧iI (-1)
 = -1∧iI (-1)= -1∧iI (-1)= -1∧1=1∧qs i64 a (qs u8 k (qs i64 r ((2=bif c2B (↑(length a):Int) [x0,x1,x2,x3,x4,x5,x6,x7] i b.i then 2 else 0)∧(some Ex.ret=bif c2B
 (↑(length a):Int) [x0,x1,x2,x3,x4,x5,x6,x7] i b.i then some Ex.ret else none)∧79=79∧[52]=[52]∧as26=as26∧bd26=bd26∧0=0∧0=0∧0=0∧ql a (i=i∧0=0∧
 false=false∧Cont.vals [AV.imm (Cont.ints i64 a) (length a) none,AV.imm (Cont.ints u8 k) (length k) none,AV.imm (Cont.ints i64 r) (length r) none]=Cont.vals [AV.imm (Cont.ints i64 a)
 (length a) none,AV.imm (Cont.ints u8 k) (length k) none,AV.imm (Cont.ints i64 r) (length r) none]∧Cont.vals [AV.int i64 i]=Cont.vals [AV.int i64 i]∧True)))))∧(zz7=false→inR i64
 (b.i+1)=true∧1=1∧i=i∧1=1∧c2B (↑(length a):Int) [x0,x1,x2,x3,x4,x5,x6,x7] i b.i=false∧1=1∧x0=x0∧x1=x1∧x2=x2∧x3=x3∧x4=x4∧x5=x5∧x6=
 x6∧x7=x7∧iI (-1)= -1∧iI (-1)= -1∧iI (-1)= -1∧iI (-1)= -1∧iI (-1)= -1∧iI (-1)= -1∧iI (-1)= -1∧iI (-1)= -1∧iI (-1)= -1∧iI (-1)= -1∧iI (-1)= -1∧iI (-1)=
 -1∧iI (-1)= -1∧iI (-1)= -1∧iI (-1)= -1∧iI (-1)= -1∧iI (-1)= -1∧iI (-1)= -1∧iI (-1)= -1∧iI (-1)= -1∧iI (-1)= -1∧iI (-1)= -1∧iI (-1)= -1∧iI (-1)= -1∧1=1
 ∧qs i64 a (qs u8 k (qs i64 r ((0=bif c2B (↑(length a):Int) [x0,x1,x2,x3,x4,x5,x6,x7] i b.i then 2 else 0)∧(none=bif c2B (↑(length a):Int) [x0,x1,x2,x3,x4,x5,x6,x7] i
 b.i then some Ex.ret else none)∧79=79∧[52]=[52]∧as26=as26∧bd26=bd26∧0=0∧0=0∧0=0∧ql a (i=i∧0=0∧false=false∧Cont.vals [AV.imm (Cont.ints i64 a)
 (length a) none,AV.imm (Cont.ints u8 k) (length k) none,AV.imm (Cont.ints i64 r) (length r) none]=Cont.vals [AV.imm (Cont.ints i64 a) (length a) none,AV.imm (Cont.ints u8 k) (length k)
 none,AV.imm (Cont.ints i64 r) (length r) none]∧Cont.vals [AV.int i64 i]=Cont.vals [AV.int i64 i]∧Cont.vals [AV.imm (Cont.ints i64 a) (length a) none,AV.imm (Cont.ints u8 k) (length
 k) none,AV.imm (Cont.ints i64 r) (length r) none]=Cont.vals [AV.imm (Cont.ints i64 a) (length a) none,AV.imm (Cont.ints u8 k) (length k) none,AV.imm (Cont.ints i64 r) (length r) none]∧
 Cont.vals [AV.int i64 i]=Cont.vals [AV.int i64 i]∧qx zz3 (ql a (b.i+1=b.i+1∧zz2∧length a-Int.toNat (b.i+1)<length a-Int.toNat b.i∧True))))))))∧(zz8=false→(b.i
 !=i)=true∧(b.i !=i)=true∧(b.i !=i)=true∧(b.i !=i)=true∧inR i64 (b.i+1)=true∧(b.i !=i)=true∧leb 0 (b.i+1)=true∧ltb (b.i+1) (↑(length r):Int)=true∧
 ltn 0 (Cont.size (Cont.ints i64 r))=true∧(b.i !=i)=true∧ltn 0 (Cont.size (Cont.ints i64 zz4))=true∧(b.i !=i)=true∧(b.i !=i)=true∧(b.i !=i)=true∧zz0=true∧zz0=
 true∧zz0=true∧zz0=true∧leb 0 b.i=true∧ltb b.i (↑(length r):Int)=true∧ltn 0 (Cont.size (Cont.ints i64 r))=true∧zz0=true∧ltn 0 (Cont.size (Cont.ints i64 (drop
 (Int.toNat b.i) r)))=true∧zz0=true∧zz0=true∧zz0=true∧zz0=true∧zz0=true∧zz0=true∧leb 0 i=true∧ltb i (↑(length r):Int)=true∧ltn 0 (Cont.size (Cont.ints
 i64 r))=true∧zz0=true∧ltn 0 (Cont.size (Cont.ints i64 (drop (Int.toNat i) r)))=true∧zz0=true∧zz0=true∧zz0=true∧zz0=true∧zz5=true∧zz5=true∧zz5=true∧zz5
 =true∧zz5=true∧inR i64 (b.i+1)=true∧1=1∧i=i∧1=1∧false=false∧1=1∧x0=x0∧x1=x1∧x2=x2∧x3=x3∧x4=x4∧x5=x5∧x6=x6∧x7=x7∧iI (-1)= -1
 ∧iI (-1)= -1∧iI (-1)= -1∧iI (-1)= -1∧iI (-1)= -1∧iI (-1)= -1∧iI (-1)= -1∧iI (-1)= -1∧iI (-1)= -1∧iI (-1)= -1∧iI (-1)= -1∧iI (-1)= -1∧iI (-1)= -1∧iI (-1)
 = -1∧iI (-1)= -1∧iI (-1)= -1∧iI (-1)= -1∧iI (-1)= -1∧iI (-1)= -1∧iI (-1)= -1∧iI (-1)= -1∧iI (-1)= -1∧iI (-1)= -1∧iI (-1)= -1∧1=1∧qs i64 a (qs u8 k (qs i64
 r (0=0∧(none:Option Ex)=none∧79=79∧[52]=[52]∧as26=as26∧bd26=bd26∧0=0∧0=0∧0=0∧ql a (i=i∧0=0∧false=false∧Cont.vals [AV.imm (Cont.ints i64 a)
 (length a) none,AV.imm (Cont.ints u8 k) (length k) none,AV.imm (Cont.ints i64 r) (length r) none]=Cont.vals [AV.imm (Cont.ints i64 a) (length a) none,AV.imm (Cont.ints u8 k) (length k)
 none,AV.imm (Cont.ints i64 r) (length r) none]∧Cont.vals [AV.int i64 i]=Cont.vals [AV.int i64 i]∧Cont.vals [AV.imm (Cont.ints i64 a) (length a) none,AV.imm (Cont.ints u8 k) (length
 k) none,AV.imm (Cont.ints i64 r) (length r) none]=Cont.vals [AV.imm (Cont.ints i64 a) (length a) none,AV.imm (Cont.ints u8 k) (length k) none,AV.imm (Cont.ints i64 r) (length r) none]∧
 Cont.vals [AV.int i64 i]=Cont.vals [AV.int i64 i]∧qx zz3 (ql a (b.i+1=b.i+1∧zz2∧length a-Int.toNat (b.i+1)<length a-Int.toNat b.i∧True))))))))∧((gR r (b.i+1)==
 gR r (i+1))=false→(b.i !=i)=true∧(b.i !=i)=true∧(b.i !=i)=true∧(b.i !=i)=true∧inR i64 (b.i+1)=true∧(b.i !=i)=true∧leb 0 (b.i+1)=true∧ltb (b.i+1)
 (↑(length r):Int)=true∧ltn 0 (Cont.size (Cont.ints i64 r))=true∧(b.i !=i)=true∧ltn 0 (Cont.size (Cont.ints i64 zz4))=true∧(b.i !=i)=true∧(b.i !=i)=true∧(b.i !=
 i)=true∧zz1=true∧zz1=true∧zz1=true∧zz1=true∧zz1=true∧zz1=true∧zz1=true∧zz1=true∧zz1=true∧zz1=true∧zz1=true∧zz1=true∧zz1=true∧zz1=
 true∧zz1=true∧zz1=true∧inR i64 (b.i+1)=true∧1=1∧i=i∧1=1∧false=false∧1=1∧x0=x0∧x1=x1∧x2=x2∧x3=x3∧x4=x4∧x5=x5∧x6=x6∧x7=x7∧iI
 (-1)= -1∧iI (-1)= -1∧iI (-1)= -1∧iI (-1)= -1∧iI (-1)= -1∧iI (-1)= -1∧iI (-1)= -1∧iI (-1)= -1∧iI (-1)= -1∧iI (-1)= -1∧iI (-1)= -1∧iI (-1)= -1∧iI (-1)= -1
 ∧iI (-1)= -1∧iI (-1)= -1∧iI (-1)= -1∧iI (-1)= -1∧iI (-1)= -1∧iI (-1)= -1∧iI (-1)= -1∧iI (-1)= -1∧iI (-1)= -1∧iI (-1)= -1∧iI (-1)= -1∧1=1∧qs i64 a (qs u8
 k (qs i64 r (0=0∧(none:Option Ex)=none∧79=79∧[52]=[52]∧as26=as26∧bd26=bd26∧0=0∧0=0∧0=0∧ql a (i=i∧0=0∧false=false∧Cont.vals [AV.imm
 (Cont.ints i64 a) (length a) none,AV.imm (Cont.ints u8 k) (length k) none,AV.imm (Cont.ints i64 r) (length r) none]=Cont.vals [AV.imm (Cont.ints i64 a) (length a) none,AV.imm (Cont.ints
 u8 k) (length k) none,AV.imm (Cont.ints i64 r) (length r) none]∧Cont.vals [AV.int i64 i]=Cont.vals [AV.int i64 i]∧Cont.vals [AV.imm (Cont.ints i64 a) (length a) none,AV.imm
 (Cont.ints u8 k) (length k) none,AV.imm (Cont.ints i64 r) (length r) none]=Cont.vals [AV.imm (Cont.ints i64 a) (length a) none,AV.imm (Cont.ints u8 k) (length k) none,AV.imm (Cont.ints
 i64 r) (length r) none]∧Cont.vals [AV.int i64 i]=Cont.vals [AV.int i64 i]∧qx zz3 (ql a (b.i+1=b.i+1∧zz2∧length a-Int.toNat (b.i+1)<length a-Int.toNat b.i∧
 True))))))))∧((b.i !=i)=false→(!b.i !=i)=true∧(!b.i !=i)=true∧(!b.i !=i)=true∧(!b.i !=i)=true∧(!b.i !=i)=true∧(!b.i !=i)=true∧(!b.i !=i)=true∧(!b.i
 !=i)=true∧(!b.i !=i)=true∧inR i64 (b.i+1)=true∧1=1∧i=i∧1=1∧false=false∧1=1∧x0=x0∧x1=x1∧x2=x2∧x3=x3∧x4=x4∧x5=x5∧x6=x6∧x7=x7∧
 iI (-1)= -1∧iI (-1)= -1∧iI (-1)= -1∧iI (-1)= -1∧iI (-1)= -1∧iI (-1)= -1∧iI (-1)= -1∧iI (-1)= -1∧iI (-1)= -1∧iI (-1)= -1∧iI (-1)= -1∧iI (-1)= -1∧iI (-1)=
 -1∧iI (-1)= -1∧iI (-1)= -1∧iI (-1)= -1∧iI (-1)= -1∧iI (-1)= -1∧iI (-1)= -1∧iI (-1)= -1∧iI (-1)= -1∧iI (-1)= -1∧iI (-1)= -1∧iI (-1)= -1∧1=1∧qs i64 a (qs
 u8 k (qs i64 r (0=0∧(none:Option Ex)=none∧79=79∧[52]=[52]∧as26=as26∧bd26=bd26∧0=0∧0=0∧0=0∧ql a (i=i∧0=0∧false=false∧Cont.vals [AV.imm
 (Cont.ints i64 a) (length a) none,AV.imm (Cont.ints u8 k) (length k) none,AV.imm (Cont.ints i64 r) (length r) none]=Cont.vals [AV.imm (Cont.ints i64 a) (length a) none,AV.imm (Cont.ints
 u8 k) (length k) none,AV.imm (Cont.ints i64 r) (length r) none]∧Cont.vals [AV.int i64 i]=Cont.vals [AV.int i64 i]∧Cont.vals [AV.imm (Cont.ints i64 a) (length a) none,AV.imm
 (Cont.ints u8 k) (length k) none,AV.imm (Cont.ints i64 r) (length r) none]=Cont.vals [AV.imm (Cont.ints i64 a) (length a) none,AV.imm (Cont.ints u8 k) (length k) none,AV.imm (Cont.ints
 i64 r) (length r) none]∧Cont.vals [AV.int i64 i]=Cont.vals [AV.int i64 i]∧qx zz3 (ql a (b.i+1=b.i+1∧zz2∧length a-Int.toNat (b.i+1)<length a-Int.toNat b.i∧
 True))))))))∧(ltb b.i (↑(length a):Int)=false→1=1∧i=i∧1=1∧false=true∧1=1∧x0=x0∧x1=x1∧x2=x2∧x3=x3∧x4=x4∧x5=x5∧x6=x6∧x7=x7∧iI (-1)=
 -1∧iI (-1)= -1∧iI (-1)= -1∧iI (-1)= -1∧iI (-1)= -1∧iI (-1)= -1∧iI (-1)= -1∧iI (-1)= -1∧iI (-1)= -1∧iI (-1)= -1∧iI (-1)= -1∧iI (-1)= -1∧iI (-1)= -1∧iI
 (-1)= -1∧iI (-1)= -1∧iI (-1)= -1∧iI (-1)= -1∧iI (-1)= -1∧iI (-1)= -1∧iI (-1)= -1∧iI (-1)= -1∧iI (-1)= -1∧iI (-1)= -1∧iI (-1)= -1∧1=1∧qs i64 a (qs u8 k
 (qs i64 r (2=0∧some Ex.ret=none∧79=79∧[52]=[52]∧as26=as26∧bd26=bd26∧0=0∧0=0∧0=0∧ql a (i=i∧0=0∧false=false∧Cont.vals [AV.imm (Cont.ints i64 a)
 (length a) none,AV.imm (Cont.ints u8 k) (length k) none,AV.imm (Cont.ints i64 r) (length r) none]=Cont.vals [AV.imm (Cont.ints i64 a) (length a) none,AV.imm (Cont.ints u8 k) (length k)
 none,AV.imm (Cont.ints i64 r) (length r) none]∧Cont.vals [AV.int i64 i]=Cont.vals [AV.int i64 i]∧True)))))) (!ltb u0 u1==ltb u0 u2)) (ltb u0 u1==ltb u0 u2)) zz3 (getD (drop
 (Int.toNat b.i) r) 0 0) (getD (drop (Int.toNat i) r) 0 0)) (getD zz4 0 0==getD (drop (Int.toNat (i+1)) r) 0 0)) (!getD zz4 0 0==getD (drop (Int.toNat (i+1)) r) 0 0)) (∃(m:Nat),
 b.i+1=(↑m:Int)∧m≤length a∧∃(q:Nat),m≤q∧q<length a∧besB r i (↑q:Int)=true∧c2B (↑(length a):Int) [x0,x1,x2,x3,x4,x5,x6,x7] i (↑q:Int)=true)) (drop
 (Int.toNat (b.i+1)) r)) (!!c2B (↑(length a):Int) [x0,x1,x2,x3,x4,x5,x6,x7] i b.i)) (ltb (gR r (i+1)) (gR r b.i)==ltb (gR r (i+1)) (gR r i)))))))))) (getD (drop (Int.toNat (i
 +1)) r) 0 0)):=by kernel_rfl

theorem ob_g40 (a k r:List Int)(x0 x1 x2 x3 x4 x5 x6 x7:Int):fnP (rT40 a k r x0 x1 x2 x3 x4 x5 x6 x7) G 10000 fe26 (.r [] 0 (.r [] 1 (.lp (rl40 (length a) r [x0,x1,x2,x3,x4,x5,x6,x7]) [] [] (fun b=>(.r [] 0 (.cnd (.r [] 1 (.r [] 3 (.r [] 1 (.lp (rm40 (length a) r [x0,x1,x2,x3,x4,x5,x6,x7] b.i) [] [] (fun b_1=>(.r [] 0 (.cnd (.r [] 0 (.rs 6 [] 1 34 (.rs 7 [] 13 41 (.r [] 55 (.cnd (.r [] 1 .nil) (.r [] 0 .nil))) (.r [] 3 (.lit (.r [] 0 .nil)))) (.r [] 15 (.lit (.r [] 0 .nil))))) (.br (cr2 (length a) r [x0,x1,x2,x3,x4,x5,x6,x7] b.i) (.r [] 3 (.rf 9003 0 .nil)) (.r [] 3 (.rf 9002 0 (.r [] 0 .nil))))))))))) (.r [] 1 .nil))))))) ([conV a k r,r32V x0 x1 x2 x3 x4 x5 x6 x7]) ([.bool (crR a.length r [x0,x1,x2,x3,x4,x5,x6,x7])]) ([])=(
 1=1∧qs i64 a (qs u8 k (qs i64 r (1=1∧x0=x0∧x1=x1∧x2=x2∧x3=x3∧x4=x4∧x5=x5∧x6=x6∧x7=x7∧iI (-1)= -1∧iI (-1)= -1∧iI (-1)= -1∧iI (-1)= -1∧iI
 (-1)= -1∧iI (-1)= -1∧iI (-1)= -1∧iI (-1)= -1∧iI (-1)= -1∧iI (-1)= -1∧iI (-1)= -1∧iI (-1)= -1∧iI (-1)= -1∧iI (-1)= -1∧iI (-1)= -1∧iI (-1)= -1∧iI (-1)= -1
 ∧iI (-1)= -1∧iI (-1)= -1∧iI (-1)= -1∧iI (-1)= -1∧iI (-1)= -1∧iI (-1)= -1∧iI (-1)= -1∧1=1∧false=false∧0=0∧0=0∧0=0∧ql a (iI 0=0∧(∃(m:Nat),0=
 (↑m:Int)∧m≤length a∧∀(j:Nat),j<m→(cr1 (length a) r [x0,x1,x2,x3,x4,x5,x6,x7] (↑j:Int)||cr2 (length a) r [x0,x1,x2,x3,x4,x5,x6,x7] (↑j:Int))=false)∧∀
 (b:L83),(fun(zz1:Int)=>(∃(m:Nat),b.i=(↑m:Int)∧m≤length a∧∀(j:Nat),j<m→(cr1 (length a) r [x0,x1,x2,x3,x4,x5,x6,x7] (↑j:Int)||cr2 (length a) r [x0,x1,
 x2,x3,x4,x5,x6,x7] (↑j:Int))=false)→(ltb b.i (↑(length a):Int)=true→inR i64 (b.i+1)=true∧rd i64 r (b.i+1) (1=1∧qs i64 a (qs u8 k (qs i64 r (1=1∧x0=x0∧x1
 =x1∧x2=x2∧x3=x3∧x4=x4∧x5=x5∧x6=x6∧x7=x7∧iI (-1)= -1∧iI (-1)= -1∧iI (-1)= -1∧iI (-1)= -1∧iI (-1)= -1∧iI (-1)= -1∧iI (-1)= -1∧iI (-1)= -1∧iI
 (-1)= -1∧iI (-1)= -1∧iI (-1)= -1∧iI (-1)= -1∧iI (-1)= -1∧iI (-1)= -1∧iI (-1)= -1∧iI (-1)= -1∧iI (-1)= -1∧iI (-1)= -1∧iI (-1)= -1∧iI (-1)= -1∧iI (-1)= -1
 ∧iI (-1)= -1∧iI (-1)= -1∧iI (-1)= -1∧1=1∧false=false∧1=1∧b.i=b.i∧0=0∧0=0∧0=0∧ql a (b.i=b.i∧0=0∧qx zz1 (ql a (iI 0=0∧(∃(m:Nat),0=(↑m:
 Int)∧m≤length a∧∀(j:Nat),j<m→c1B (↑(length a):Int) r [x0,x1,x2,x3,x4,x5,x6,x7] b.i (↑j:Int)=false)∧∀(b_1:L83),(fun(zz0:Prop)=>(∃(m:Nat),b_1.i=(↑m
 :Int)∧m≤length a∧∀(j:Nat),j<m→c1B (↑(length a):Int) r [x0,x1,x2,x3,x4,x5,x6,x7] b.i (↑j:Int)=false)→(ltb b_1.i (↑(length a):Int)=true→(cok a k r (length
 a) (length k) (length r)∧0≤b_1.i∧b_1.i+1<(↑(length r):Int)∧length r≤9)∧(ltb (mnI (gR r b_1.i) (gR r (b_1.i+1))) zz1=true→(cok a k r (length a) (length k) (length r)∧
 0≤b_1.i∧b_1.i+1<(↑(length r):Int)∧length r≤9)∧(ltb zz1 (mxI (gR r b_1.i) (gR r (b_1.i+1)))=true→(cok a k r (length a) (length k) (length r)∧0<length a∧length a≤
 8∧0≤b.i∧b.i<(↑(length a):Int)∧0≤b_1.i∧b_1.i<(↑(length a):Int))∧(btwB (↑(length a):Int) [x0,x1,x2,x3,x4,x5,x6,x7] (bhI (↑(length a):Int) b.i) b_1.i=true→
 true=crR (length a) r [x0,x1,x2,x3,x4,x5,x6,x7]∧True)∧(btwB (↑(length a):Int) [x0,x1,x2,x3,x4,x5,x6,x7] (bhI (↑(length a):Int) b.i) b_1.i=false→inR i64 (b_1.i+
 1)=true∧1=1∧qs i64 a (qs u8 k (qs i64 r (1=1∧x0=x0∧x1=x1∧x2=x2∧x3=x3∧x4=x4∧x5=x5∧x6=x6∧x7=x7∧iI (-1)= -1∧iI (-1)= -1∧iI (-1)= -1∧iI (-1)
 = -1∧iI (-1)= -1∧iI (-1)= -1∧iI (-1)= -1∧iI (-1)= -1∧iI (-1)= -1∧iI (-1)= -1∧iI (-1)= -1∧iI (-1)= -1∧iI (-1)= -1∧iI (-1)= -1∧iI (-1)= -1∧iI (-1)= -1∧iI
 (-1)= -1∧iI (-1)= -1∧iI (-1)= -1∧iI (-1)= -1∧iI (-1)= -1∧iI (-1)= -1∧iI (-1)= -1∧iI (-1)= -1∧1=1∧false=false∧1=1∧b.i=b.i∧0=0∧0=0∧0=0∧ql a
 (b.i=b.i∧0=0∧qx zz1 (ql a (qx (b_1.i+1) (zz0∧length a-Int.toNat (b_1.i+1)<length a-Int.toNat b_1.i∧True)))))))))∧(ltb zz1 (mxI (gR r b_1.i) (gR r (b_1.i+1)))=
 false→inR i64 (b_1.i+1)=true∧1=1∧qs i64 a (qs u8 k (qs i64 r (1=1∧x0=x0∧x1=x1∧x2=x2∧x3=x3∧x4=x4∧x5=x5∧x6=x6∧x7=x7∧iI (-1)= -1∧iI (-1)= -1
 ∧iI (-1)= -1∧iI (-1)= -1∧iI (-1)= -1∧iI (-1)= -1∧iI (-1)= -1∧iI (-1)= -1∧iI (-1)= -1∧iI (-1)= -1∧iI (-1)= -1∧iI (-1)= -1∧iI (-1)= -1∧iI (-1)= -1∧iI (-1)
 = -1∧iI (-1)= -1∧iI (-1)= -1∧iI (-1)= -1∧iI (-1)= -1∧iI (-1)= -1∧iI (-1)= -1∧iI (-1)= -1∧iI (-1)= -1∧iI (-1)= -1∧1=1∧false=false∧1=1∧b.i=b.i∧0=
 0∧0=0∧0=0∧ql a (b.i=b.i∧0=0∧qx zz1 (ql a (qx (b_1.i+1) (zz0∧length a-Int.toNat (b_1.i+1)<length a-Int.toNat b_1.i∧True)))))))))∧(ltb (mnI (gR r b_1.i) (gR r
 (b_1.i+1))) zz1=false→inR i64 (b_1.i+1)=true∧1=1∧qs i64 a (qs u8 k (qs i64 r (1=1∧x0=x0∧x1=x1∧x2=x2∧x3=x3∧x4=x4∧x5=x5∧x6=x6∧x7=x7∧iI (-1)
 = -1∧iI (-1)= -1∧iI (-1)= -1∧iI (-1)= -1∧iI (-1)= -1∧iI (-1)= -1∧iI (-1)= -1∧iI (-1)= -1∧iI (-1)= -1∧iI (-1)= -1∧iI (-1)= -1∧iI (-1)= -1∧iI (-1)= -1∧iI
 (-1)= -1∧iI (-1)= -1∧iI (-1)= -1∧iI (-1)= -1∧iI (-1)= -1∧iI (-1)= -1∧iI (-1)= -1∧iI (-1)= -1∧iI (-1)= -1∧iI (-1)= -1∧iI (-1)= -1∧1=1∧false=false∧1=
 1∧b.i=b.i∧0=0∧0=0∧0=0∧ql a (b.i=b.i∧0=0∧qx zz1 (ql a (qx (b_1.i+1) (zz0∧length a-Int.toNat (b_1.i+1)<length a-Int.toNat b_1.i∧True)))))))))∧(ltb
 b_1.i (↑(length a):Int)=false→(cr2 (length a) r [x0,x1,x2,x3,x4,x5,x6,x7] b.i=true→cok a k r (length a) (length k) (length r)∧([(257,HO.blk (Blk.mk (Cont.cells [AV.int
 i64 b.i]) 1 1 none (some false) true true)),(66,HO.blk (Blk.mk (Cont.cells [AV.bool false]) 1 1 none (some false) true true)),(65,HO.blk (Blk.mk (Cont.cells [AV.int i64 x0,AV.int i64
 x1,AV.int i64 x2,AV.int i64 x3,AV.int i64 x4,AV.int i64 x5,AV.int i64 x6,AV.int i64 x7,AV.int i64 (-1),AV.int i64 (-1),AV.int i64 (-1),AV.int i64 (-1),AV.int i64 (-1),AV.int i64
 (-1),AV.int i64 (-1),AV.int i64 (-1),AV.int i64 (-1),AV.int i64 (-1),AV.int i64 (-1),AV.int i64 (-1),AV.int i64 (-1),AV.int i64 (-1),AV.int i64 (-1),AV.int i64 (-1),AV.int i64
 (-1),AV.int i64 (-1),AV.int i64 (-1),AV.int i64 (-1),AV.int i64 (-1),AV.int i64 (-1),AV.int i64 (-1),AV.int i64 (-1)]) 32 1 none (some false) true true)),(64,HO.blk (Blk.mk
 (Cont.cells [AV.imm (Cont.ints i64 a) (length a) none,AV.imm (Cont.ints u8 k) (length k) none,AV.imm (Cont.ints i64 r) (length r) none]) 3 1 none (some false) true true)),(9003,HO.loop
 (LoopS.mk 0 none [(2,AV.ptr 64 0),(3,AV.ptr 65 0),(4,AV.ptr 66 0),(12,AV.int i64 (↑(length a):Int)),(13,AV.int i64 b.i),(5,AV.ptr 257 0),(27,AV.bool (ltb b_1.i (↑(length a):
 Int))),(51,AV.fn 57 [] [AV.iptr (Cont.vals [AV.imm (Cont.ints i64 a) (length a) none,AV.imm (Cont.ints u8 k) (length k) none,AV.imm (Cont.ints i64 r) (length r) none]),AV.iptr
 (Cont.vals [AV.int i64 b.i])])] 79 [52] as26 bd26))]=[(257,HO.blk (Blk.mk (Cont.cells [AV.int i64 b.i]) 1 1 none (some false) true true)),(66,HO.blk (Blk.mk (Cont.cells [AV.bool false])
 1 1 none (some false) true true)),(65,HO.blk (Blk.mk (Cont.cells [AV.int i64 x0,AV.int i64 x1,AV.int i64 x2,AV.int i64 x3,AV.int i64 x4,AV.int i64 x5,AV.int i64 x6,AV.int i64 x7,
 AV.int i64 (-1),AV.int i64 (-1),AV.int i64 (-1),AV.int i64 (-1),AV.int i64 (-1),AV.int i64 (-1),AV.int i64 (-1),AV.int i64 (-1),AV.int i64 (-1),AV.int i64 (-1),AV.int i64 (-1),
 AV.int i64 (-1),AV.int i64 (-1),AV.int i64 (-1),AV.int i64 (-1),AV.int i64 (-1),AV.int i64 (-1),AV.int i64 (-1),AV.int i64 (-1),AV.int i64 (-1),AV.int i64 (-1),AV.int i64 (-1),
 AV.int i64 (-1),AV.int i64 (-1)]) 32 1 none (some false) true true)),(64,HO.blk (Blk.mk (Cont.cells [AV.imm (Cont.ints i64 a) (length a) none,AV.imm (Cont.ints u8 k) (length k) none,
 AV.imm (Cont.ints i64 r) (length r) none]) 3 1 none (some false) true true)),(9003,HO.loop (LoopS.mk 0 none [(2,AV.ptr 64 0),(3,AV.ptr 65 0),(4,AV.ptr 66 0),(12,AV.int i64 (↑(length
 a):Int)),(13,AV.int i64 b.i),(5,AV.ptr 257 0),(27,AV.bool false),(51,AV.fn 57 [] [AV.iptr (Cont.vals [AV.imm (Cont.ints i64 a) (length a) none,AV.imm (Cont.ints u8 k) (length k)
 none,AV.imm (Cont.ints i64 r) (length r) none]),AV.iptr (Cont.vals [AV.int i64 b.i])])] 79 [52] as26 bd26))]∧a=a∧k=k∧r=r∧length a=length a∧length k=length k∧length r
 =length r∧0≤b.i∧b.i<(↑(length a):Int)∧cr2 (length a) r [x0,x1,x2,x3,x4,x5,x6,x7] b.i=true)∧true=crR (length a) r [x0,x1,x2,x3,x4,x5,x6,x7]∧True)∧(cr2
 (length a) r [x0,x1,x2,x3,x4,x5,x6,x7] b.i=false→cok a k r (length a) (length k) (length r)∧([(257,HO.blk (Blk.mk (Cont.cells [AV.int i64 b.i]) 1 1 none (some false) true
 true)),(66,HO.blk (Blk.mk (Cont.cells [AV.bool false]) 1 1 none (some false) true true)),(65,HO.blk (Blk.mk (Cont.cells [AV.int i64 x0,AV.int i64 x1,AV.int i64 x2,AV.int i64 x3,
 AV.int i64 x4,AV.int i64 x5,AV.int i64 x6,AV.int i64 x7,AV.int i64 (-1),AV.int i64 (-1),AV.int i64 (-1),AV.int i64 (-1),AV.int i64 (-1),AV.int i64 (-1),AV.int i64 (-1),AV.int i64
 (-1),AV.int i64 (-1),AV.int i64 (-1),AV.int i64 (-1),AV.int i64 (-1),AV.int i64 (-1),AV.int i64 (-1),AV.int i64 (-1),AV.int i64 (-1),AV.int i64 (-1),AV.int i64 (-1),AV.int i64
 (-1),AV.int i64 (-1),AV.int i64 (-1),AV.int i64 (-1),AV.int i64 (-1),AV.int i64 (-1)]) 32 1 none (some false) true true)),(64,HO.blk (Blk.mk (Cont.cells [AV.imm (Cont.ints i64 a)
 (length a) none,AV.imm (Cont.ints u8 k) (length k) none,AV.imm (Cont.ints i64 r) (length r) none]) 3 1 none (some false) true true)),(9002,HO.loop (LoopS.mk 0 none [(2,AV.ptr 64 0),(3,
 AV.ptr 65 0),(4,AV.ptr 66 0),(12,AV.int i64 (↑(length a):Int)),(13,AV.int i64 b.i),(5,AV.ptr 257 0),(27,AV.bool (ltb b_1.i (↑(length a):Int))),(51,AV.fn 57 [] [AV.iptr
 (Cont.vals [AV.imm (Cont.ints i64 a) (length a) none,AV.imm (Cont.ints u8 k) (length k) none,AV.imm (Cont.ints i64 r) (length r) none]),AV.iptr (Cont.vals [AV.int i64 b.i])])] 79 [52]
 as26 bd26))]=[(257,HO.blk (Blk.mk (Cont.cells [AV.int i64 b.i]) 1 1 none (some false) true true)),(66,HO.blk (Blk.mk (Cont.cells [AV.bool false]) 1 1 none (some false) true true)),(65,
 HO.blk (Blk.mk (Cont.cells [AV.int i64 x0,AV.int i64 x1,AV.int i64 x2,AV.int i64 x3,AV.int i64 x4,AV.int i64 x5,AV.int i64 x6,AV.int i64 x7,AV.int i64 (-1),AV.int i64 (-1),AV.int
 i64 (-1),AV.int i64 (-1),AV.int i64 (-1),AV.int i64 (-1),AV.int i64 (-1),AV.int i64 (-1),AV.int i64 (-1),AV.int i64 (-1),AV.int i64 (-1),AV.int i64 (-1),AV.int i64 (-1),AV.int i64
 (-1),AV.int i64 (-1),AV.int i64 (-1),AV.int i64 (-1),AV.int i64 (-1),AV.int i64 (-1),AV.int i64 (-1),AV.int i64 (-1),AV.int i64 (-1),AV.int i64 (-1),AV.int i64 (-1)]) 32 1 none
 (some false) true true)),(64,HO.blk (Blk.mk (Cont.cells [AV.imm (Cont.ints i64 a) (length a) none,AV.imm (Cont.ints u8 k) (length k) none,AV.imm (Cont.ints i64 r) (length r) none]) 3 1
 none (some false) true true)),(9002,HO.loop (LoopS.mk 0 none [(2,AV.ptr 64 0),(3,AV.ptr 65 0),(4,AV.ptr 66 0),(12,AV.int i64 (↑(length a):Int)),(13,AV.int i64 b.i),(5,AV.ptr
 257 0),(27,AV.bool false),(51,AV.fn 57 [] [AV.iptr (Cont.vals [AV.imm (Cont.ints i64 a) (length a) none,AV.imm (Cont.ints u8 k) (length k) none,AV.imm (Cont.ints i64 r) (length r)
 none]),AV.iptr (Cont.vals [AV.int i64 b.i])])] 79 [52] as26 bd26))]∧a=a∧k=k∧r=r∧length a=length a∧length k=length k∧length r=length r∧0≤b.i∧b.i<(↑(length a)
 :Int)∧cr2 (length a) r [x0,x1,x2,x3,x4,x5,x6,x7] b.i=false)∧inR i64 (b.i+1)=true∧1=1∧qs i64 a (qs u8 k (qs i64 r (1=1∧x0=x0∧x1=x1∧x2=x2∧x3=x3∧x4=
 x4∧x5=x5∧x6=x6∧x7=x7∧iI (-1)= -1∧iI (-1)= -1∧iI (-1)= -1∧iI (-1)= -1∧iI (-1)= -1∧iI (-1)= -1∧iI (-1)= -1∧iI (-1)= -1∧iI (-1)= -1∧iI (-1)= -1∧iI
 (-1)= -1∧iI (-1)= -1∧iI (-1)= -1∧iI (-1)= -1∧iI (-1)= -1∧iI (-1)= -1∧iI (-1)= -1∧iI (-1)= -1∧iI (-1)= -1∧iI (-1)= -1∧iI (-1)= -1∧iI (-1)= -1∧iI (-1)= -1
 ∧iI (-1)= -1∧1=1∧false=false∧0=0∧0=0∧0=0∧ql a (b.i+1=b.i+1∧(∃(m:Nat),b.i+1=(↑m:Int)∧m≤length a∧∀(j:Nat),j<m→(cr1 (length a) r [x0,x1,
 x2,x3,x4,x5,x6,x7] (↑j:Int)||cr2 (length a) r [x0,x1,x2,x3,x4,x5,x6,x7] (↑j:Int))=false)∧length a-Int.toNat (b.i+1)<length a-Int.toNat b.i∧True))))))) (∃(m:
 Nat),b_1.i+1=(↑m:Int)∧m≤length a∧∀(j:Nat),j<m→c1B (↑(length a):Int) r [x0,x1,x2,x3,x4,x5,x6,x7] b.i (↑j:Int)=false)))))))))∧(ltb b.i (↑(length a):Int)=
 false→false=crR (length a) r [x0,x1,x2,x3,x4,x5,x6,x7]∧True)) (getD (drop (Int.toNat (b.i+1)) r) 0 0)))))):=by kernel_rfl

end Go.Proofs.Ythiammkiobbclaa.X
