/-
 What is to be shown of the functions (made by a program).
-/
import Derived.Test.YtfpcbimohikhmaaDoorQD5Z
import Derived.KernelRfl
set_option maxRecDepth 1000000
set_option linter.unusedVariables false
namespace Go.Proofs.YtfpcbimohikhmaaDoor.X
open Go Go.Ab
open List IntKind

theorem ob_o51 (k:Int):fnP (T0) G 10000 fe51 (.r [] 0 (.rs 3 [] 0 5 (.r [] 3 .nil) (.r [] 3 .nil))) ([.int .u8 k]) ([.bool (kdB k)]) ([])=(
 (leb 1 k=true→leb k 3=kdB k∧True)∧(leb 1 k=false→false=kdB k∧True)):=by kernel_rfl

theorem ob_o61 (c e c' e':Int):fnP (T0) G 10000 fe61 (.r [] 0 (.r [] 3 (.cnd (.r [] 3 .nil) (.r [] 5 .nil)))) ([.agg [.int .i64 c,.int .u8 e],.agg [.int .i64 c',.int .u8 e']]) ([.int .i64 (ordI c e c' e')]) ([])=(
 ((c !=c')=true→inR i64 (c-c')=true∧c-c'=ordI c e c' e'∧True)∧((c !=c')=false→inR i64 e=true∧inR i64 e'=true∧inR i64 (e-e')=true∧e-e'=ordI c e c' e'∧True)):=by kernel_rfl

theorem ob_o62 (c e k:Int):fnP (T0) G 10000 fe62 (.r [] 0 (.r [] 7 .nil)) ([.agg [.int .i64 c,.int .u8 e,.int .u8 k]]) ([.agg [.int .i64 c,.int .u8 e]]) ([])=(
 c=c∧e=e∧True):=by kernel_rfl

theorem ob_o66 (c e k:Int):fnP (CP1) G 10000 fe66 (.r [] 0 (.r [] 3 .nil)) ([.agg [.int .i64 c,.int .u8 e,.int .u8 k]]) ([.bool (!kdB k)]) ([])=(
 (!kdB k)= !kdB k∧True):=by kernel_rfl

theorem ob_o101 (c e k c' e':Int):fnP (CP1) G 10000 fe101 (.r [] 0 (.r [] 7 .nil)) ([.agg [.int .i64 c,.int .u8 e,.int .u8 k],.agg [.int .i64 c',.int .u8 e']]) ([.int .i64 (ordI c e c' e')]) ([])=(
 (sml c∧sml c'∧0≤e∧e≤255∧0≤e'∧e'≤255)∧ordI c e c' e'=ordI c e c' e'∧True):=by kernel_rfl

theorem ob_o95 (l:List Cr):fnP (CP2) G 10000 fe95 (.r [] 0 (.r [] 0 (.lp (l95 l) [] [] (fun b=>(.r [] 0 (.cnd (.r [] 0 (.r [(324,.auto,Dr.val (crV l b.i))] 64 (.cnd (.r [] 0 .nil) (.r [] 0 .nil)))) (.r [] 0 .nil))))))) ([.imm (.vals (flatC l)) l.length none,.fn 66 [] []]) ([.int .i64 (idxB l 0)]) ([])=(
 qx (Cont.vals (flatC l)) (length l=length l∧ql l (iI 0=0∧(∃(n:Nat),0=(↑n:Int)∧n≤length l∧idxB (drop n l) (↑n:Int)=idxB l 0)∧∀(b:L1),(∃(n:Nat),b.i=(↑n:
 Int)∧n≤length l∧idxB (drop n l) (↑n:Int)=idxB l 0)→(ltb b.i (↑(length l):Int)=true→leb 0 b.i=true∧ltb b.i (↑(length l):Int)=true∧ltn 0 (Cont.size (Cont.vals
 (flatC l)))=true∧(drop (Int.toNat b.i*3) (flatC l))[0]? =some (AV.int i64 (cC l b.i))∧(drop (Int.toNat b.i*3) (flatC l))[1]? =some (AV.int u8 (cE l b.i))∧(drop (Int.toNat b.i*
 3) (flatC l))[2]? =some (AV.int u8 (cK l b.i))∧((!kdB (cK l b.i))=true→b.i=idxB l 0∧True)∧((!kdB (cK l b.i))=false→inR i64 (b.i+1)=true∧qx (Cont.vals (flatC l))
 (length l=length l∧ql l (b.i+1=b.i+1∧(∃(n:Nat),b.i+1=(↑n:Int)∧n≤length l∧idxB (drop n l) (↑n:Int)=idxB l 0)∧length l-Int.toNat (b.i+1)<length l-
 Int.toNat b.i∧True))))∧(ltb b.i (↑(length l):Int)=false→ -1=idxB l 0∧True)))):=by kernel_rfl

theorem ob_o65 (l:List Cr):fnP (CP3) G 10000 fe65 (.r [] 0 (.r [] 0 .nil)) ([.imm (.vals (flatC l)) l.length none,.fn 66 [] []]) ([.bool (badL l)]) ([])=(
 okA (flatC l) (length l)∧leb 0 (idxB (unC (flatC l)) 0)=badL l∧True):=by kernel_rfl

theorem ob_o27 (w h:Int)(l:List Cr):fnP (CP4) G 10000 fe27 (.r [] 0 (.r [] 3 (.r [] 0 (.cnd (.r [] 0 .nil) (.r [] 1 (.cnd (.r [] 0 .nil) (.r [] 1 (.lp (l27 w h l) [] [] (fun b=>(.r [] 0 (.cnd (.r [(577,.auto,Dr.val (crV l b.i))] 64 (.r [] 119 (.r [yM 707,yM 708,yM 709,yM 710] 75 (.cnd (.r [] 0 .nil) (.r [] 0 .nil))))) (.r [] 0 (.lp (m27 l) [] [] (fun b_1=>(.r [] 1 (.cnd (.r [(1093,.auto,Dr.val (crV l (b_1.i-1))),(1099,.auto,Dr.val (crV l b_1.i))] 66305 (.cnd (.r [] 0 .nil) (.r [] 0 .nil))) (.r [] 0 .nil))))))))))))))))) ([patV w h l]) ([.int .i64 (chkI w h l)]) ([])=(
 ((bI (okS w h) 0 1 !=0)=true→bI (okS w h) 0 1=chkI w h l∧True)∧((bI (okS w h) 0 1 !=0)=false→okA (flatC l) (length l)∧(badL (unC (flatC l))=true→1=chkI w h l∧True)
 ∧(badL (unC (flatC l))=false→1=1∧w=w∧h=h∧qx (Cont.vals (flatC l)) (length l=length l∧0=0∧qx (Cont.vals (flatC l)) (length l=length l∧ql l (iI 0=0∧(∃(n:
 Nat),0=(↑n:Int)∧n≤length l∧all (take n l) (unitB w h)=true)∧∀(b:L1),(fun(zz1:Bool)=>(fun(zz0:Bool)=>(∃(n:Nat),b.i=(↑n:Int)∧n≤length l∧all (take n
 l) (unitB w h)=true)→(ltb b.i (↑(length l):Int)=true→leb 0 b.i=true∧ltb b.i (↑(length l):Int)=true∧ltn 0 (Cont.size (Cont.vals (flatC l)))=true∧(drop (Int.toNat b.i*
 3) (flatC l))[0]? =some (AV.int i64 (cC l b.i))∧(drop (Int.toNat b.i*3) (flatC l))[1]? =some (AV.int u8 (cE l b.i))∧(drop (Int.toNat b.i*3) (flatC l))[2]? =some (AV.int u8 (cK l
 b.i))∧0≤cE l b.i∧(zz0=true→zz0=true)∧(zz0=true→zz0=true)∧(zz0=true→zz0=true)∧(bif neE w h (cC l b.i) (cE l b.i) !=0 then true else !neE w h (cC l b.i) (cE l
 b.i) !=0&&true)=true∧(zz1=true→7=chkI w h l∧True)∧(zz1=false→inR i64 (b.i+1)=true∧1=1∧w=w∧h=h∧qx (Cont.vals (flatC l)) (length l=length l∧0=0∧
 qx (Cont.vals (flatC l)) (length l=length l∧ql l (b.i+1=b.i+1∧(∃(n:Nat),b.i+1=(↑n:Int)∧n≤length l∧all (take n l) (unitB w h)=true)∧length l-Int.toNat (b.i+
 1)<length l-Int.toNat b.i∧True)))))∧(ltb b.i (↑(length l):Int)=false→1=1∧w=w∧h=h∧qx (Cont.vals (flatC l)) (length l=length l∧0=0∧qx (ltb b.i (↑(length l):
 Int)) (iI 1=1∧(∃(n:Nat),1=(↑n:Int)+1∧ascB (drop n l)=ascB l)∧∀(b_1:L1),(∃(n:Nat),b_1.i=(↑n:Int)+1∧ascB (drop n l)=ascB l)→(ltb b_1.i (↑(length l):
 Int)=true→inR i64 (b_1.i-1)=true∧leb 0 (b_1.i-1)=true∧ltb (b_1.i-1) (↑(length l):Int)=true∧ltn 0 (Cont.size (Cont.vals (flatC l)))=true∧(drop (Int.toNat (b_1.i-
 1)*3) (flatC l))[0]? =some (AV.int i64 (cC l (b_1.i-1)))∧(drop (Int.toNat (b_1.i-1)*3) (flatC l))[1]? =some (AV.int u8 (cE l (b_1.i-1)))∧(drop (Int.toNat (b_1.i-1)*3)
 (flatC l))[2]? =some (AV.int u8 (cK l (b_1.i-1)))∧leb 0 b_1.i=true∧ltb b_1.i (↑(length l):Int)=true∧ltn 0 (Cont.size (Cont.vals (flatC l)))=true∧(drop (Int.toNat b_1.i*
 3) (flatC l))[0]? =some (AV.int i64 (cC l b_1.i))∧(drop (Int.toNat b_1.i*3) (flatC l))[1]? =some (AV.int u8 (cE l b_1.i))∧(drop (Int.toNat b_1.i*3) (flatC l))[2]? =some (AV.int u8
 (cK l b_1.i))∧(sml (cC l (b_1.i-1))∧sml (cC l b_1.i)∧0≤cE l (b_1.i-1)∧cE l (b_1.i-1)≤255∧0≤cE l b_1.i∧cE l b_1.i≤255)∧(leb 0 (ordI (cC l (b_1.i-1)) (cE l (b_1.i
 -1)) (cC l b_1.i) (cE l b_1.i))=true→6=chkI w h l∧True)∧(leb 0 (ordI (cC l (b_1.i-1)) (cE l (b_1.i-1)) (cC l b_1.i) (cE l b_1.i))=false→inR i64 (b_1.i+1)=true∧1=1
 ∧w=w∧h=h∧qx (Cont.vals (flatC l)) (length l=length l∧0=0∧qx (ltb b.i (↑(length l):Int)) (qx (b_1.i+1) ((∃(n:Nat),b_1.i+1=(↑n:Int)+1∧ascB (drop n l)=ascB
 l)∧length l-Int.toNat (b_1.i+1)<length l-Int.toNat b_1.i∧True)))))∧(ltb b_1.i (↑(length l):Int)=false→0=chkI w h l∧True))))) (!neE w h (cC l b.i) (cE l b.i) !=0))
 (bif neE w h (cC l b.i) (cE l b.i) !=0 then true else !(nmC w h (cC l b.i) (cE l b.i)==cC l b.i&&nmE w h (cC l b.i) (cE l b.i)==cE l b.i)))))))):=by kernel_rfl

end Go.Proofs.YtfpcbimohikhmaaDoor.X
