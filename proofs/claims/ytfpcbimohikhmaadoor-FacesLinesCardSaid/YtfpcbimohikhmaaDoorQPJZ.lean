/-
 Lines, plainly: sides of lines, corners and octants (by trying all cells of the greatest sheet).
-/
import Derived.Test.YtfpcbimohikhmaaDoorQYD6Z
set_option maxRecDepth 1000000
set_option linter.unusedVariables false
set_option linter.unusedSimpArgs false
namespace Go.Proofs.YtfpcbimohikhmaaDoor.X
open Go Go.Ab

/-- The side of a line on which a cell lies. -/
def sdB (k c x y q:Int):Bool:=decide (0<acA k*(6*x+1+hQ q+gQ q)+acB k*(6*y+3+hQ q-gQ q)-6*c)
def ckS (x y q e k c:Int):Bool:=(sdB k c x y q==sdB k c (nbX x q e) (nbY y q e) (nbQ q e))== !(liK x y q e==k&&liC x y q e==c)
def ckR (x y q e:Int):Bool:=(decide (1≤liK x y q e)&&decide (liK x y q e≤4))&&(decide (-5≤liC x y q e)&&decide (liC x y q e≤10))&&(liK (nbX x q e) (nbY y q e) (nbQ q e) e==liK x y q e&&liC (nbX x q e) (nbY y q e) (nbQ q e) e==liC x y q e)
theorem ckR_all:((List.range 5).all fun x=>(List.range 5).all fun y=>(List.range 4).all fun q=>(List.range 3).all fun e=>ckR x y q e)=true:=by decide +kernel
theorem ckS_all:((List.range 5).all fun x=>(List.range 5).all fun y=>(List.range 4).all fun q=>(List.range 3).all fun e=>(List.range 4).all fun k=>(List.range 16).all fun c=>ckS x y q e ((k:Int)+1) ((c:Int)-5))=true:=by decide +kernel
theorem ckR_ok {x y q e:Int}(hx:0≤x∧x≤4)(hy:0≤y∧y≤4)(hq:0≤q∧q≤3)(he:0≤e∧e≤2):(1≤liK x y q e∧liK x y q e≤4)∧(-5≤liC x y q e∧liC x y q e≤10)∧liK (nbX x q e) (nbY y q e) (nbQ q e) e=liK x y q e∧liC (nbX x q e) (nbY y q e) (nbQ q e) e=liC x y q e:=by
 have h:=ckR_all
 simp only[List.all_eq_true,List.mem_range]at h
 have:=h x.toNat (by omega) y.toNat (by omega) q.toNat (by omega) e.toNat (by omega)
 rw[Int.toNat_of_nonneg hx.1,Int.toNat_of_nonneg hy.1,Int.toNat_of_nonneg hq.1,Int.toNat_of_nonneg he.1]at this
 simp only[ckR,Bool.and_eq_true,decide_eq_true_eq,beq_iff_eq]at this
 obtain⟨⟨h1,h2⟩,h3,h4⟩:=this
 exact⟨h1,h2,h3,h4⟩
/-- Which lines. -/
def okLn (k c:Int):Prop:=(1≤k∧k≤4)∧(-5≤c∧c≤10)
theorem ckS_ok {x y q e k c:Int}(hx:0≤x∧x≤4)(hy:0≤y∧y≤4)(hq:0≤q∧q≤3)(he:0≤e∧e≤2)(hl:okLn k c):sdB k c x y q=sdB k c (nbX x q e) (nbY y q e) (nbQ q e)↔¬ (liK x y q e=k∧liC x y q e=c):=by
 have h:=ckS_all
 obtain⟨hk,hc⟩:=hl
 simp only[List.all_eq_true,List.mem_range]at h
 have:=h x.toNat (by omega) y.toNat (by omega) q.toNat (by omega) e.toNat (by omega) (k-1).toNat (by omega) (c+5).toNat (by omega)
 rw[Int.toNat_of_nonneg hx.1,Int.toNat_of_nonneg hy.1,Int.toNat_of_nonneg hq.1,Int.toNat_of_nonneg he.1,show(((k-1).toNat:Nat):Int)+1=k by omega,show(((c+5).toNat:Nat):Int)-5=c by omega]at this
 simp only[ckS,beq_iff_eq]at this
 have h3:(liK x y q e==k&&liC x y q e==c)=true↔liK x y q e=k∧liC x y q e=c:=by simp
 rw[← h3]
 cases hb:(liK x y q e==k&&liC x y q e==c)
 ·rw[hb]at this
  simpa using this
 ·rw[hb]at this
  simpa using this
/-! ### The eight octants around a point -/
def ocX (p:Int)(j:Nat):Int:=cond (p%2==0) (p/2-cond (decide (2≤j)&&decide (j≤5)) 1 0) (p/2)
def ocY (p:Int)(j:Nat):Int:=cond (p%2==0) (p/2-cond (decide (4≤j)) 1 0) (p/2)
def ocQ (p:Int)(j:Nat):Int:=cond (p%2==0) (([0,3,1,0,2,1,3,2]:List Int).getD j 0) (([1,2,2,3,3,0,0,1]:List Int).getD j 0)
/-- The line through a point in a direction. -/
def dK (d:Nat):Int:=([2,4,1,3]:List Int).getD d 0
def dC (px py:Int)(d:Nat):Int:=([py/2,(py-px)/2,px/2,(px+py)/2]:List Int).getD d 0
/-- A corner of a cell. -/
def ckF (x y q i k:Nat):Bool:= !decide ((k:Int)<wdI i)||(let px:=crX x q i;let py:=crY y q i;let j:=((secI q i+k).tmod 8).toNat
 decide (j<8)&&((ocX px j==x&&ocY py j==y&&ocQ px j==q)&&(px%2==py%2&&(decide (0≤px)&&decide (px≤10)&&(decide (0≤py)&&decide (py≤10))))))
theorem ckF_all:((List.range 5).all fun x=>(List.range 5).all fun y=>(List.range 4).all fun q=>(List.range 3).all fun i=>(List.range 2).all fun k=>ckF x y q i k)=true:=by decide +kernel
/-- An octant's cell has a corner at the point. -/
def inSec (q i:Int)(j:Nat):Bool:=(List.range (wdI i).toNat).any fun(k:Nat)=>((secI q i+k).tmod 8).toNat==j
def ckB (px py j:Nat):Bool:= !((px:Int)%2==(py:Int)%2)||(let x:=ocX px j;let y:=ocY py j;let q:=ocQ px j
 decide (0≤q)&&(decide (q≤3)&&((List.range 3).any fun(i:Nat)=>crX x q i==px&&(crY y q i==py&&inSec q i j))))
theorem ckB_all:((List.range 11).all fun px=>(List.range 11).all fun py=>(List.range 8).all fun j=>ckB px py j)=true:=by decide +kernel
/-- Octants that are side by side. -/
def ckA (px py j:Nat):Bool:= !((px:Int)%2==(py:Int)%2)||(let x:=ocX px j;let y:=ocY py j;let q:=ocQ px j;let j':=(j+1)%8;let d:=(j+1)%4
 (x==ocX px j'&&(y==ocY py j'&&q==ocQ px j'))||((decide ((px:Int)%2=0)||decide (d%2=1))&&((List.range 3).any fun(e:Nat)=>(nbX x q e==ocX px j'&&(nbY y q e==ocY py j'&&nbQ q e==ocQ px j'))&&(liK x y q e==dK d&&liC x y q e==dC px py d))))
theorem ckA_all:((List.range 11).all fun px=>(List.range 11).all fun py=>(List.range 8).all fun j=>ckA px py j)=true:=by decide +kernel
/-- On which side of a line through the point an octant lies. -/
def sid (d j:Nat):Bool:=decide ((j+8-d)%8<4)
def ckD (px py d j:Nat):Bool:= !((px:Int)%2==(py:Int)%2)|| !((decide ((px:Int)%2=0)||decide (d%2=1)))||(sdB (dK d) (dC px py d) (ocX px j) (ocY py j) (ocQ px j)==(sid d j==decide (d<2)))
theorem ckD_all:((List.range 11).all fun px=>(List.range 11).all fun py=>(List.range 4).all fun d=>(List.range 8).all fun j=>ckD px py d j)=true:=by decide +kernel
/-! ### Eight marks -/
def okB (v:Nat→Bool):Bool:= !(decide ((List.range 8).countP (fun j=>v j)<8)&&(decide (1<(List.range 8).countP fun j=>v j&& !v ((j+7)%8))||decide (4<(List.range 8).countP fun j=>v j)))
theorem okV8_B (v:List Int):okV8 v=okB (b8 v):=rfl
def gp (R L U D:Bool)(j:Nat):Bool:=cond (decide (j<2)) (R&&U) (cond (decide (j<4)) (L&&U) (cond (decide (j<6)) (L&&D) (R&&D)))
def bl (l:List Bool)(j:Nat):Bool:=l.getD j false
def hyB (p t v:Nat→Bool):Bool:=((List.range 8).all fun j=>(!v j||p j)&&(!(p j&&(p ((j+1)%8)&& !t ((j+1)%4)))||v j==v ((j+1)%8)))&&((List.range 4).all fun d=> !t d|| !(((List.range 8).any fun j=>v j&&sid d j)&&((List.range 8).any fun j=>v j&& !sid d j)))
theorem eight:∀R L U D t0 t1 t2 t3 v0 v1 v2 v3 v4 v5 v6 v7:Bool,(!hyB (gp R L U D) (bl [t0,t1,t2,t3]) (bl [v0,v1,v2,v3,v4,v5,v6,v7])||okB (bl [v0,v1,v2,v3,v4,v5,v6,v7]))=true:=by decide +kernel
end Go.Proofs.YtfpcbimohikhmaaDoor.X
