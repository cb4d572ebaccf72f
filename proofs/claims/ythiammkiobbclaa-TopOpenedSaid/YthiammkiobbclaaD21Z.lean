/-
 Cones, plain: what it means that nothing crosses.
-/
import Derived.Test.YthiammkiobbclaaD11Z
import Derived.Test.YthiammkiobbclaaC9Z
set_option maxRecDepth 1000000
set_option linter.unusedVariables false
set_option linter.unusedSectionVars false
set_option linter.unusedSimpArgs false
namespace Go.Proofs.Ythiammkiobbclaa.X
open Go Go.Ab

/-! ### Fans that alternate -/
structure Alt (n:Nat)(r:List Int):Prop where
 ev:n%2=0
 up:∀k:Nat,k<n→k%2=0→gR r (k:Int)<gR r ((k:Int)+1)
 dn:∀k:Nat,k<n→k%2=1→gR r ((k:Int)+1)<gR r (k:Int)
 cl:gR r (n:Int)=gR r 0
theorem bfI_v {n:Nat}{c:Int}(h0:0≤c)(h1:c<n):bfI n c=if c=0 then(n:Int)-1 else c-1:=by
 unfold bfI
 rw[Int.tmod_eq_emod_of_nonneg (by omega)]
 split
 ·rename_i h;subst h
  rw[Int.emod_eq_of_lt (by omega) (by omega)];omega
 ·rw[show c+(n:Int)-1=(c-1)+(n:Int)by omega,Int.add_emod_right,Int.emod_eq_of_lt (by omega) (by omega)]
theorem nx_v {n:Nat}{k:Int}(h0:0≤k)(h1:k<n):(k+1).tmod n=if k+1=n then 0 else k+1:=by
 rw[Int.tmod_eq_emod_of_nonneg (by omega)]
 split
 ·rename_i h;rw[h,Int.emod_self]
 ·rw[Int.emod_eq_of_lt (by omega) (by omega)]
theorem nat_of {k:Int}(h:0≤k):∃m:Nat,k=m:=⟨k.toNat,by omega⟩
section
variable {n:Nat}{r:List Int}(A:Alt n r)
include A
theorem Alt.rise {k:Int}(h0:0≤k)(h1:k<n):(k%2=0∧gR r k<gR r (k+1))∨(k%2=1∧gR r (k+1)<gR r k):=by
 obtain⟨m,rfl⟩:=nat_of h0
 rcases Nat.mod_two_eq_zero_or_one m with h|h
 ·exact .inl ⟨by omega,A.up m (by omega) h⟩
 ·exact .inr ⟨by omega,A.dn m (by omega) h⟩
theorem Alt.nx {k:Int}(h0:0≤k)(h1:k<n):gR r ((k+1).tmod n)=gR r (k+1):=by
 rw[nx_v h0 h1]
 split
 ·rename_i h;rw[h,A.cl]
 ·rfl
theorem Alt.bf {c:Int}(h0:0≤c)(h1:c<n):0≤bfI n c∧bfI n c<n∧bfI n c≠c∧(bfI n c+1).tmod n=c∧gR r (bfI n c+1)=gR r c∧bfI n c%2≠c%2:=by
 have:=A.ev
 have hb:=bfI_v h0 h1
 have g1:0≤bfI n c∧bfI n c<n:=by rw[hb];split<;>omega
 have g2:(bfI n c+1).tmod n=c:=by
  rw[nx_v g1.1 g1.2,hb]
  split<;>split<;>omega
 refine⟨g1.1,g1.2,?_,g2,?_,?_⟩
 ·rw[hb];split<;>omega
 ·rw[← A.nx g1.1 g1.2,g2]
 ·rw[hb];split<;>omega
theorem Alt.sid {c:Int}(h0:0≤c)(h1:c<n):sidB r c=decide (c%2=0):=by
 unfold sidB
 rcases A.rise h0 h1 with⟨h,h'⟩|⟨h,h'⟩
 ·rw[ltb_iff.2 h',h];rfl
 ·rw[ltb_no.2 (by omega),h];rfl
/-- The event of a sector beside a ray. -/
theorem Alt.skip {g:Bool}{y k:Int}(h0:0≤k)(h1:k<n):skG r g y k=false↔
  (insB r y k=true∨(gR r k=y∧g=decide (k%2=0))∨(gR r (k+1)=y∧g=decide (k%2=1))):=by
 unfold skG insB mnI mxI
 rcases A.rise h0 h1 with⟨h,h'⟩|⟨h,h'⟩
 ·rw[if_neg (by omega),if_pos (by omega),h]
  cases g<;>simp[ltb_iff,leb_iff,leb_no,ltb_no]<;>omega
 ·rw[if_pos (by omega),if_neg (by omega),h]
  cases g<;>simp[ltb_iff,leb_iff,leb_no,ltb_no]<;>omega
theorem Alt.ev2 {g:Bool}{y c k:Int}(h0:0≤c)(h1:c<n)(hy:gR r c=y)(hg:sidB r c=g)(hk:k=c∨k=bfI n c):skG r g y k=false∧crI n r y k=c:=by
 obtain⟨b1,b2,b3,b4,b5,b6⟩:=A.bf h0 h1
 rw[A.sid h0 h1]at hg
 rcases hk with rfl|rfl
 ·refine⟨(A.skip h0 h1).2 (.inr (.inl ⟨hy,hg.symm⟩)),?_⟩
  unfold crI
  rw[if_neg,if_pos hy]
  intro e
  rcases A.rise h0 h1 with⟨q,q'⟩|⟨q,q'⟩<;>omega
 ·refine⟨(A.skip b1 b2).2 (.inr (.inr ⟨by rw[b5,hy],?_⟩)),?_⟩
  ·rw[← hg]
   rcases Int.emod_two_eq c with q|q<;>rcases Int.emod_two_eq (bfI n c)with q'|q'<;>rw[q,q']<;>first|rfl|omega
  ·unfold crI
   rw[if_pos (by rw[b5,hy]),b4]
end
theorem mn_0 {x y:Int}:0≤mnI x y↔0≤x∧0≤y:=by unfold mnI;split<;>omega
theorem anyN_iff {n:Nat}{f:Int→Bool}:anyN n f=true↔∃i:Nat,i<n∧f i=true:=by
 unfold anyN
 rw[List.any_eq_true]
 simp[List.mem_range]
theorem anyN_noI {n:Nat}{f:Int→Bool}:anyN n f=false↔∀i:Nat,i<n→f i=false:=by
 rw[← Bool.not_eq_true,anyN_iff]
 constructor
 ·intro h i hi
  rw[← Bool.not_eq_true]
  exact fun h'=>h ⟨i,hi,h'⟩
 ·rintro h ⟨i,hi,h'⟩
  rw[h i hi]at h';cases h'
/-- Ranks of a permutation. -/
theorem rk_facts {n:Nat}{o:List Int}(hn:n≤8)(ho:o.Perm (idO n)):
  (∀m (h:m<o.length),0≤o[m]∧o[m]<n∧gR (rkL o) o[m]=m)∧(∀x:Int,0≤x→x<n→∃m,∃h:m<o.length,o[m]=x∧gR (rkL o) x=m):=by
 have hO:=perm_okO ho hn
 have hN:=perm_nodup ho
 have mem:∀x:Int,x∈o↔0≤x∧x<n:=fun x=>by rw[ho.mem_iff,idO_mem]
 rw[rkL_eq]
 refine⟨fun m h=>?_,fun x h0 h1=>?_⟩
 ·obtain⟨h0,h1⟩:=(mem _).1 (List.getElem_mem h)
  exact⟨h0,h1,rk_at hN hO h⟩
 ·obtain⟨m,hm,e⟩:=List.getElem_of_mem ((mem x).2 ⟨h0,h1⟩)
  exact⟨m,hm,e,by rw[← e];exact rk_at hN hO hm⟩
end Go.Proofs.Ythiammkiobbclaa.X

/-
 Rings: what the functions on a folded ring compute.
-/
set_option maxRecDepth 1000000
set_option linter.unusedVariables false
namespace Go.Proofs.Ythiammkiobbclaa.X
open Go Go.Ab

/-- The ranks of the segments: those that are there, and -1. -/
def m24:List AV:=[.int .i64 (-1),.int .i64 (-1),.int .i64 (-1),.int .i64 (-1),.int .i64 (-1),.int .i64 (-1),.int .i64 (-1),.int .i64 (-1),.int .i64 (-1),.int .i64 (-1),.int .i64 (-1),.int .i64 (-1),.int .i64 (-1),.int .i64 (-1),.int .i64 (-1),.int .i64 (-1),.int .i64 (-1),.int .i64 (-1),.int .i64 (-1),.int .i64 (-1),.int .i64 (-1),.int .i64 (-1),.int .i64 (-1),.int .i64 (-1)]
def r32V (x0 x1 x2 x3 x4 x5 x6 x7:Int):AV:=.agg [.int .i64 x0,.int .i64 x1,.int .i64 x2,.int .i64 x3,.int .i64 x4,.int .i64 x5,.int .i64 x6,.int .i64 x7,.int .i64 (-1),.int .i64 (-1),.int .i64 (-1),.int .i64 (-1),.int .i64 (-1),.int .i64 (-1),.int .i64 (-1),.int .i64 (-1),.int .i64 (-1),.int .i64 (-1),.int .i64 (-1),.int .i64 (-1),.int .i64 (-1),.int .i64 (-1),.int .i64 (-1),.int .i64 (-1),.int .i64 (-1),.int .i64 (-1),.int .i64 (-1),.int .i64 (-1),.int .i64 (-1),.int .i64 (-1),.int .i64 (-1),.int .i64 (-1)]
def isM:Nat→List AV→Bool
 |0,[]=>true
 |n+1,.int .i64 (.negSucc 0)::l=>isM n l
 |_,_=>false
def rk32 (o:List Int):AV:=r32V (rkO o 0) (rkO o 1) (rkO o 2) (rkO o 3) (rkO o 4) (rkO o 5) (rkO o 6) (rkO o 7)
/-- The segment behind a crease. -/
def bhI (n c:Int):Int:=(c+1).tmod n
/-- The kinds, from the crease that the fan has first. -/
def rotR (k:List Int):List Int:=k.drop (k.length-1)++k.take (k.length-1)
def rg59 (f:Int→Int→Int):CtE
 |[.agg [.imm (.ints .i64 a) n _,.imm (.ints .u8 k) m _,.imm (.ints .i64 r) p _],.int .i64 i]=>some ⟨.int .i64 (f (gR r i) (gR r (i+1))),[],some (cok a k r n m p∧0≤i∧i+1<p∧p≤9)⟩
 |_=>none
def rg63:CtE
 |[.agg [.imm (.ints .i64 a) n _,.imm (.ints .u8 k) m _,.imm (.ints .i64 r) p _],.int .i64 c]=>some ⟨.int .i64 (bhI n c),[],some (cok a k r n m p∧0<n∧n≤8∧0≤c∧c<n)⟩
 |_=>none
def tR1:List (Nat×CtE):=[(12,rg63)]
def TR1:Tab:=tabL tR1 noCh
def rg61:CtE
 |[.agg [.imm (.ints .i64 a) n _,.imm (.ints .u8 k) m _,.imm (.ints .i64 r) p _],.agg (.int .i64 x0:: .int .i64 x1:: .int .i64 x2:: .int .i64 x3:: .int .i64 x4:: .int .i64 x5:: .int .i64 x6:: .int .i64 x7::tl),.int .i64 c,.int .i64 s]=>cond (isM 24 tl) (some ⟨.bool (btwB n [x0,x1,x2,x3,x4,x5,x6,x7] (bhI n c) s),[],some (cok a k r n m p∧0<n∧n≤8∧0≤c∧c<n∧0≤s∧s<n)⟩) none
 |_=>none
def rg64:CtE
 |[.agg [.imm (.ints .i64 a) n _,.imm (.ints .u8 k) m _,.imm (.ints .i64 r) p _],.agg (.int .i64 x0:: .int .i64 x1:: .int .i64 x2:: .int .i64 x3:: .int .i64 x4:: .int .i64 x5:: .int .i64 x6:: .int .i64 x7::tl),.int .i64 c]=>cond (isM 24 tl) (some ⟨.int .u8 (kdI n [x0,x1,x2,x3,x4,x5,x6,x7] (bhI n c)),[],some (cok a k r n m p∧n%2=0∧0<n∧n≤8∧0≤c∧c<n)⟩) none
 |_=>none
def rg39:CtE
 |[.imm (.ints .i64 o) n _]=>some ⟨rk32 o,[],some (n=o.length∧okO o)⟩
 |_=>none
def rg39z:CtE
 |[.nils]=>some ⟨rk32 [],[],none⟩
 |_=>none
structure L39 where (i:Int)(rk:List Int)
def rkG (o:List Int):List Int:=rkA (List.replicate 32 (-1)) 0 o
def l39 (o:List Int):LpS L39 where
 ov b:=[(15,.int .i64 b.i)]
 bk b:=[(128,.blk ⟨.ints .i64 b.rk,1,32,none,some false,true,true⟩)]
 rd S:=match aget S.t 15,aget S.h 128 with
  |some (.int _ i),some (.blk ⟨.ints _ rk,_,_,_,_,_,_⟩)=>some ⟨i,rk⟩
  |_,_=>none
 pre b:=∃m:Nat,b.i=m∧m≤o.length∧b.rk.length=32∧rkA b.rk m (o.drop m)=rkG o
 mu b:=o.length-b.i.toNat
def tR2:List (Nat×CtE):=(44,rg64)::tR1
def TR2:Tab:=tabL tR2 noCh
def l41 (k rk:List Int):LpS L83 where
 ov b:=[(11,.int .i64 b.i)]
 bk b:=[]
 rd S:=match aget S.t 11 with
  |some (.int _ i)=>some ⟨i⟩
  |_=>none
 pre b:=∃m:Nat,b.i=m∧m≤k.length∧∀j:Nat,j<m→wrg1 (rotR k) rk (bhI k.length j)=false
 mu b:=k.length-b.i.toNat
def rg41:CtE
 |[.agg [.imm (.ints .i64 a) n _,.imm (.ints .u8 k) m _,.imm (.ints .i64 r) p _],.agg (.int .i64 x0:: .int .i64 x1:: .int .i64 x2:: .int .i64 x3:: .int .i64 x4:: .int .i64 x5:: .int .i64 x6:: .int .i64 x7::tl)]=>cond (isM 24 tl) (some ⟨.bool (wrgB (rotR k) [x0,x1,x2,x3,x4,x5,x6,x7]),[],some (cok a k r n m p∧0<n∧n%2=0∧n≤8∧m=n)⟩) none
 |_=>none
end Go.Proofs.Ythiammkiobbclaa.X
/-
 Rings: what crosses in a pile.
-/
set_option maxRecDepth 1000000
set_option linter.unusedVariables false
namespace Go.Proofs.Ythiammkiobbclaa.X
open Go Go.Ab

abbrev conF (a k r:List Int):Cont:=.vals [.imm (.ints .i64 a) a.length none,.imm (.ints .u8 k) k.length none,.imm (.ints .i64 r) r.length none]
/-- The visit of the creases beside one. -/
def besV (a k r:List Int)(c:Int):AV:=.fn 57 [] [.iptr (conF a k r),.iptr (.vals [.int .i64 c])]
def rg62:CtE
 |[.agg [.imm (.ints .i64 a) n _,.imm (.ints .u8 k) m _,.imm (.ints .i64 r) p _],.int .i64 c]=>some ⟨besV a k r c,[],some (cok a k r n m p)⟩
 |_=>none
def besB (r:List Int)(c x:Int):Bool:=(x !=c)&&((gR r (x+1)==gR r (c+1))&&(ltb (gR r (c+1)) (gR r x)==ltb (gR r (c+1)) (gR r c)))
def c2B (n:Int)(rk:List Int)(c x:Int):Bool:=leb 0 (mnI (gR rk x) (gR rk (bhI n x)))&&(btwB n rk (bhI n c) x !=btwB n rk (bhI n c) (bhI n x))
def c1B (n:Int)(r rk:List Int)(c x:Int):Bool:=insB r (gR r (c+1)) x&&btwB n rk (bhI n c) x
def cr1 (n:Nat)(r rk:List Int)(c:Int):Bool:=anyN n fun x=>c1B n r rk c x
def cr2 (n:Nat)(r rk:List Int)(c:Int):Bool:=anyN n fun x=>besB r c x&&c2B n rk c x
def hoC (a k r:List Int):HO:=.blk ⟨.cells [.imm (.ints .i64 a) a.length none,.imm (.ints .u8 k) k.length none,.imm (.ints .i64 r) r.length none],3,1,none,some false,true,true⟩
def hoR (x0 x1 x2 x3 x4 x5 x6 x7:Int):HO:=.blk ⟨.cells [.int .i64 x0,.int .i64 x1,.int .i64 x2,.int .i64 x3,.int .i64 x4,.int .i64 x5,.int .i64 x6,.int .i64 x7,.int .i64 (-1),.int .i64 (-1),.int .i64 (-1),.int .i64 (-1),.int .i64 (-1),.int .i64 (-1),.int .i64 (-1),.int .i64 (-1),.int .i64 (-1),.int .i64 (-1),.int .i64 (-1),.int .i64 (-1),.int .i64 (-1),.int .i64 (-1),.int .i64 (-1),.int .i64 (-1),.int .i64 (-1),.int .i64 (-1),.int .i64 (-1),.int .i64 (-1),.int .i64 (-1),.int .i64 (-1),.int .i64 (-1),.int .i64 (-1)],32,1,none,some false,true,true⟩
def hoB (b:Bool):HO:=.blk ⟨.cells [.bool b],1,1,none,some false,true,true⟩
def hoI (i:Int):HO:=.blk ⟨.cells [.int .i64 i],1,1,none,some false,true,true⟩
def rtm40 (a k r:List Int)(x0 x1 x2 x3 x4 x5 x6 x7 i:Int):List (Nat×AV):=[(2,.ptr 64 0),(3,.ptr 65 0),(4,.ptr 66 0),(12,.int .i64 a.length),(13,.int .i64 i),(5,.ptr 257 0),(27,.bool false),(51,besV a k r i)]
noncomputable def as26:XC:=(rfLoop fe26 []).as
noncomputable def bd26:XC:=(rfLoop fe26 []).bd
noncomputable def rL40 (a k r:List Int)(x0 x1 x2 x3 x4 x5 x6 x7 i:Int):LoopS:=rfLoop fe26 (rtm40 a k r x0 x1 x2 x3 x4 x5 x6 x7 i)
noncomputable def rH40 (id:Nat)(a k r:List Int)(x0 x1 x2 x3 x4 x5 x6 x7 i:Int):List (Nat×HO):=[(257,hoI i),(66,hoB false),(65,hoR x0 x1 x2 x3 x4 x5 x6 x7),(64,hoC a k r),(id,.loop (rL40 a k r x0 x1 x2 x3 x4 x5 x6 x7 i))]
noncomputable def rW40 (id:Nat)(a k r:List Int)(x0 x1 x2 x3 x4 x5 x6 x7 i:Int):List (Nat×HO):=[(66,hoB true),(id,.loop {rL40 a k r x0 x1 x2 x3 x4 x5 x6 x7 i with st:=2,pend:=some .ret})]
def tR3:List (Nat×CtE):=[(40,rg59 mnI),(41,rg59 mxI),(42,rg61),(43,rg62),(12,rg63)]
def TR3:Tab:=tabL tR3 noCh
/-- Rounds, by contracts. -/
noncomputable def chRn (a k r:List Int)(x0 x1 x2 x3 x4 x5 x6 x7 i:Int)(h:List (Nat×HO))(cv:AV)(args:List AV):Option Cx:=
 match cv,args with
 |.yld id,[.int .i64 x]=>cond (Nat.beq id 9002) (some ⟨.bool true,[],some (h=rH40 9002 a k r x0 x1 x2 x3 x4 x5 x6 x7 i∧0≤x∧x<a.length∧c2B a.length [x0,x1,x2,x3,x4,x5,x6,x7] i x=false)⟩) none
 |_,_=>none
noncomputable def TRn (a k r:List Int)(x0 x1 x2 x3 x4 x5 x6 x7 i:Int):Tab:=tabL [] (chRn a k r x0 x1 x2 x3 x4 x5 x6 x7 i)
noncomputable def wsY (a k r:List Int)(x0 x1 x2 x3 x4 x5 x6 x7 i:Int)(c:Bool):List (Nat×HO):=[(66,hoB c),(9003,.loop {rL40 a k r x0 x1 x2 x3 x4 x5 x6 x7 i with st:=cond c 2 0,pend:=cond c (some .ret) none})]
noncomputable def chRy (a k r:List Int)(x0 x1 x2 x3 x4 x5 x6 x7 i:Int)(h:List (Nat×HO))(cv:AV)(args:List AV):Option Cx:=
 match cv,args with
 |.yld id,[.int .i64 x]=>cond (Nat.beq id 9003) (some ⟨.bool (!c2B a.length [x0,x1,x2,x3,x4,x5,x6,x7] i x),wsY a k r x0 x1 x2 x3 x4 x5 x6 x7 i (c2B a.length [x0,x1,x2,x3,x4,x5,x6,x7] i x),some (h=rH40 9003 a k r x0 x1 x2 x3 x4 x5 x6 x7 i∧0≤x∧x<a.length)⟩) none
 |_,_=>none
noncomputable def TRy (a k r:List Int)(x0 x1 x2 x3 x4 x5 x6 x7 i:Int):Tab:=tabL [] (chRy a k r x0 x1 x2 x3 x4 x5 x6 x7 i)
noncomputable def l86n (a k r:List Int)(x0 x1 x2 x3 x4 x5 x6 x7 i:Int):LpS L83 where
 ov b:=[(16,.int .i64 b.i)]
 bk b:=[(66,hoB false),(9002,.loop (rL40 a k r x0 x1 x2 x3 x4 x5 x6 x7 i))]
 rd S:=match aget S.t 16 with
  |some (.int _ i)=>some ⟨i⟩
  |_=>none
 pre b:=∃m:Nat,b.i=m∧m≤a.length
 mu b:=a.length-b.i.toNat
noncomputable def l86y (a k r:List Int)(x0 x1 x2 x3 x4 x5 x6 x7 i:Int):LpS L83 where
 ov b:=[(16,.int .i64 b.i)]
 bk b:=wsY a k r x0 x1 x2 x3 x4 x5 x6 x7 i false
 rd S:=match aget S.t 16 with
  |some (.int _ i)=>some ⟨i⟩
  |_=>none
 pre b:=∃m:Nat,b.i=m∧m≤a.length∧∃q:Nat,m≤q∧q<a.length∧besB r i q=true∧c2B a.length [x0,x1,x2,x3,x4,x5,x6,x7] i q=true
 mu b:=a.length-b.i.toNat
/-- The visit, by contracts. -/
noncomputable def ch86 (a k r:List Int)(x0 x1 x2 x3 x4 x5 x6 x7:Int)(h:List (Nat×HO))(cv:AV)(args:List AV):Option Cx:=
 match cv,args with
 |.fn f [] [],[.yld id,.iptr (.vals [.imm (.ints .i64 a') n none,.imm (.ints .u8 k') m none,.imm (.ints .i64 r') p none]),.iptr (.vals [.int .i64 i])]=>
  cond (Nat.beq f 57&&Nat.beq id 9003) (some ⟨.tup [],rW40 9003 a k r x0 x1 x2 x3 x4 x5 x6 x7 i,some (h=rH40 9003 a k r x0 x1 x2 x3 x4 x5 x6 x7 i∧a'=a∧k'=k∧r'=r∧n=a.length∧m=k.length∧p=r.length∧0≤i∧i<a.length∧cr2 a.length r [x0,x1,x2,x3,x4,x5,x6,x7] i=true)⟩)
   (cond (Nat.beq f 57&&Nat.beq id 9002) (some ⟨.tup [],[],some (h=rH40 9002 a k r x0 x1 x2 x3 x4 x5 x6 x7 i∧a'=a∧k'=k∧r'=r∧n=a.length∧m=k.length∧p=r.length∧0≤i∧i<a.length∧cr2 a.length r [x0,x1,x2,x3,x4,x5,x6,x7] i=false)⟩) none)
 |_,_=>none
noncomputable def rT40 (a k r:List Int)(x0 x1 x2 x3 x4 x5 x6 x7:Int):Tab:=tabL tR3 (ch86 a k r x0 x1 x2 x3 x4 x5 x6 x7)
def rl40 (n:Nat)(r rk:List Int):LpS L83 where
 ov b:=[(13,.int .i64 b.i)]
 bk b:=[]
 rd S:=match aget S.t 13 with
  |some (.int _ i)=>some ⟨i⟩
  |_=>none
 pre b:=∃m:Nat,b.i=m∧m≤n∧∀j:Nat,j<m→(cr1 n r rk j||cr2 n r rk j)=false
 mu b:=n-b.i.toNat
def rm40 (n:Nat)(r rk:List Int)(i:Int):LpS L83 where
 ov b:=[(26,.int .i64 b.i)]
 bk b:=[]
 rd S:=match aget S.t 26 with
  |some (.int _ i)=>some ⟨i⟩
  |_=>none
 pre b:=∃m:Nat,b.i=m∧m≤n∧∀j:Nat,j<m→c1B n r rk i j=false
 mu b:=n-b.i.toNat
def crR (n:Nat)(r rk:List Int):Bool:=anyN n fun i=>cr1 n r rk i||cr2 n r rk i
def rg40:CtE
 |[.agg [.imm (.ints .i64 a) n _,.imm (.ints .u8 k) m _,.imm (.ints .i64 r) p _],.agg (.int .i64 x0:: .int .i64 x1:: .int .i64 x2:: .int .i64 x3:: .int .i64 x4:: .int .i64 x5:: .int .i64 x6:: .int .i64 x7::tl)]=>cond (isM 24 tl) (some ⟨.bool (crR n r [x0,x1,x2,x3,x4,x5,x6,x7]),[],some (cok a k r n m p∧0<n∧n≤8∧p=n+1)⟩) none
 |_=>none
end Go.Proofs.Ythiammkiobbclaa.X
