/-
 What the functions of the reductions compute.
-/
import Derived.Test.YthiammkiobbclaaGreatDZ

set_option maxRecDepth 1000000
set_option linter.unusedVariables false
namespace Go.Proofs.YthiammkiobbclaaGreat.X
open Go Go.Ab

/-- Element, 0 outside. -/
def gt (l:List Int)(i:Nat):Int:=l[i]?.getD 0
/-- An angle can be folded away. -/
def stB (a k:List Int)(i:Nat):Bool:=
 !(gt k i==gt k ((i+1)%a.length))&&(decide (gt a i≤gt a ((i+a.length-1)%a.length))&&decide (gt a i≤gt a ((i+1)%a.length)))
def stepsN (a k:List Int):List Nat:=if a.length<4 then[]else(List.range a.length).filter (stB a k)
def keepB (n i j:Nat):Bool:= !(j==i||j==(i+1)%n)
def valF (a:List Int)(i j:Nat):Int:=if j==(i+a.length-1)%a.length then gt a j+(gt a ((i+1)%a.length)-gt a i)else gt a j
def keepL (n i m:Nat):List Nat:=(List.range m).filter (keepB n i)
def doneA (a:List Int)(i:Nat):List Int:=(keepL a.length i a.length).map (valF a i)
def doneK (k:List Int)(i:Nat):List Int:=(keepL k.length i k.length).map (gt k)
def base (a k:List Int):Bool:=a.length==0||(a.length==2&&(gt a 0==gt a 1&&gt k 0==gt k 1))
def redL:Nat→List Int→List Int→List Nat×(List Int×List Int)
 |0,a,k=>([],a,k)
 |n+1,a,k=>match stepsN a k with
  |[]=>([],a,k)
  |i::_=>(i::(redL n (doneA a i) (doneK k i)).1,(redL n (doneA a i) (doneK k i)).2)
def foldB (a k:List Int):Bool:=base (redL a.length a k).2.1 (redL a.length a k).2.2
/-- The same as lists of integers. -/
def inL (l:List Nat):List Int:=l.map Int.ofNat
def stI (a k:List Int):List Int:=inL (stepsN a k)
def rdA (a k:List Int):List Int:=(redL a.length a k).2.1
def rdK (a k:List Int):List Int:=(redL a.length a k).2.2
/-- A valid fan, decided. -/
def okF:List Int→List Int→Int→Bool
 |x::a,y::k,s=>decide (1≤x)&&(decide (x≤s)&&((y==1||y==2)&&okF a k (s-x)))
 |[],[],_=>true
 |_,_,_=>false
/-- A list, or none. -/
def bLs (b:Bool)(l:List Int):List Int:=cond b l []
def isS (a k:List Int)(i:Int):Bool:=memB (stI a k) i
structure L38 where (i:Int)(l:List Int)
def immL (k:IntKind)(l:List Int):AV:=.imm (.ints k l) l.length (some l.length)
def immN (k:IntKind)(l:List Int):AV:=.imm (.ints k l) l.length none
structure L40 where (i:Int)(a k:List Int)
end Go.Proofs.YthiammkiobbclaaGreat.X

/-
 Plain facts: it does not matter which angles are folded away.
-/
set_option maxRecDepth 1000000
set_option linter.unusedVariables false
namespace Go.Proofs.YthiammkiobbclaaGreat.X
open Go Go.Ab

def enc:List Int→List Int→Nat→Nat
 |x::a,y::k,s=>enc a k ((s*3+y.toNat)*3 ^ (x.toNat-1))
 |_,_,s=>s
def tab:Nat:=697241616572949329040471989704443189092266398381892888099342440982237839880830032089150586457625600772156721258830302175138782440084631114748162112008054835867813241520522018197723047147310189947345521891902769308581886166339737959682985873323778167206249717349961269419271390048978989148458305649370816216308163555694923326473816787180509308525441114488584207524861135335881508792271378409278425596077782177717918464536295085190894998339624490566047173509677731301880797523263067376339340305631445991210010788074572986690087591047573533414119217177345101435971390053881077949204041110854290519226150911532942828138133390313659906207365784677076898922712721660835201392030349199978555244364956749457100573936899561883235285310211896111116959361885645859264401727202465829053021018420271074847695887590594930667082301018807596644668496251888918537403344672509275382103685075626658521370406420181723648254171319799120255528617090511558259938673307050793675803655762556370171724311910822952105287921909980191794202998128068568626954215808097569649956100289331722949070064746983598915985400212625307046391481396118370731194129824077371275827566659537282976923379744619191386139705779468719411782074488970277045882578724928256577231384999518877492881069516248796635896759311787145764488074590084000157813878243918070677864398171967213602228898881632041765296215561640914802533508644206181399507923182991698151345235205129385751565979734714618538864706830391355351060220929215664331476790643162875763665079544442096254442663615867050689856946068042223056354614619973152308360532828920818427565008899737103935623775138873885492375784948011126960761169789207690433194189664736744597512906550478797103986475798366957426223617768881554108365937852089389924305056751205030046709396392743576732230660582790883438819127245822619528474593562203198363174288120405866380449987180829004969649336769152907477618673572399888941016714587705339118472337992762506352226528073311506885788041489
def look (a k:List Int):Bool:=tab.testBit (enc a k 0)
def chk1 (a k:List Int):Bool:=
 match stepsN a k with
  |[]=>base a k==look a k
  |l=>l.all fun i=>okF (doneA a i) (doneK k i) 8&&look (doneA a i) (doneK k i)==look a k
def allC (p:List Int→List Int→Bool):Nat→List Int→List Int→Nat→Bool
 |0,_,_,_=>true
 |f+1,a,k,s=>p a k&&(List.range s).all fun x=>allC p f (a++[(x:Int)+1]) (k++[1]) (s-(x+1))&&allC p f (a++[(x:Int)+1]) (k++[2]) (s-(x+1))
theorem allC_ok {p:List Int→List Int→Bool}:∀(a k:List Int) (f s:Nat) (a0 k0:List Int),a.length<f→allC p f a0 k0 s=true→okF a k s=true→p (a0++a) (k0++k)=true
 |[],[],f+1,s,a0,k0,hf,h,ho=>by
  simp only[allC,Bool.and_eq_true]at h
  simpa using h.1
 |x::a,y::k,f+1,s,a0,k0,hf,h,ho=>by
  simp only[allC,Bool.and_eq_true,List.all_eq_true,List.mem_range]at h
  simp only[okF,Bool.and_eq_true,Bool.or_eq_true,beq_iff_eq,decide_eq_true_eq]at ho
  obtain⟨h1,h2,h3,h4⟩:=ho
  have hx:=h.2 (x.toNat-1) (by omega)
  have e1:((x.toNat-1:Nat):Int)+1=x:=by omega
  have e2:((s-(x.toNat-1+1):Nat):Int)=(s:Int)-x:=by omega
  rw[e1]at hx
  have hl:a.length<f:=by simp at hf;omega
  rcases h3 with rfl|rfl
  ·simpa using allC_ok a k f _ _ _ hl hx.1 (by rw[e2];exact h4)
  ·simpa using allC_ok a k f _ _ _ hl hx.2 (by rw[e2];exact h4)
 |[],y::k,f,s,a0,k0,hf,h,ho=>by simp[okF]at ho
 |x::a,[],f,s,a0,k0,hf,h,ho=>by simp[okF]at ho
theorem okF_len:∀{a k:List Int} {s:Int},okF a k s=true→k.length=a.length∧(0≤s→(a.length:Int)≤s)
 |[],[],s,h=>⟨rfl,fun h=>by simpa using h⟩
 |x::a,y::k,s,h=>by
  simp only[okF,Bool.and_eq_true,Bool.or_eq_true,beq_iff_eq,decide_eq_true_eq]at h
  obtain⟨h1,h2,_,h4⟩:=h
  have:=okF_len h4
  exact⟨by simp[this.1],fun _=>by have:=this.2 (by omega);simp;omega⟩
 |[],y::k,s,h=>by simp[okF]at h
 |x::a,[],s,h=>by simp[okF]at h
theorem all1:allC chk1 9 [] [] 8=true:=by decide +kernel
theorem chk1_ok {a k:List Int}(h:okF a k 8=true):chk1 a k=true:=by
 have:=(okF_len h).2 (by omega)
 simpa using allC_ok a k 9 8 [] [] (by omega) all1 h
theorem step_ok {a k:List Int}{i:Nat}(h:okF a k 8=true)(hi:i∈stepsN a k):okF (doneA a i) (doneK k i) 8=true∧look (doneA a i) (doneK k i)=look a k:=by
 have hc:=chk1_ok h
 unfold chk1 at hc
 split at hc
 ·rename_i e;rw[e]at hi;cases hi
 ·simp only[List.all_eq_true,Bool.and_eq_true,beq_iff_eq]at hc
  exact hc i hi
theorem base_ok {a k:List Int}(h:okF a k 8=true)(hi:stepsN a k=[]):base a k=look a k:=by
 have hc:=chk1_ok h
 unfold chk1 at hc
 rw[hi]at hc
 simpa using hc
theorem steps_lt {a k:List Int}{i:Nat}(hi:i∈stepsN a k):4≤a.length∧i<a.length:=by
 unfold stepsN at hi
 split at hi
 ·cases hi
 ·simp at hi;omega
theorem done_len {a:List Int}{i:Nat}(hi:i<a.length):(doneA a i).length<a.length:=by
 have:(keepL a.length i a.length).length<(List.range a.length).length:=by
  unfold keepL
  rw[List.length_filter_lt_length_iff_exists]
  exact⟨i,by simpa using hi,by simp[keepB]⟩
 simpa[doneA]using this
theorem red_ok:∀(n:Nat) (a k:List Int),a.length≤n→okF a k 8=true→base (redL n a k).2.1 (redL n a k).2.2=look a k∧okF (redL n a k).2.1 (redL n a k).2.2 8=true∧stepsN (redL n a k).2.1 (redL n a k).2.2=[]
 |0,a,k,hl,h=>by
  obtain rfl:a=[]:=List.length_eq_zero_iff.1 (by omega)
  exact⟨base_ok h rfl,h,rfl⟩
 |n+1,a,k,hl,h=>by
  unfold redL
  split
  ·rename_i e;exact⟨base_ok h e,h,e⟩
  ·rename_i i r e
   have hi:i∈stepsN a k:=by rw[e];simp
   obtain⟨h1,h2⟩:=step_ok h hi
   have h3:=done_len (steps_lt hi).2
   have:=red_ok n _ _ (by omega) h1
   simpa[h2]using this
end Go.Proofs.YthiammkiobbclaaGreat.X
/-
 Plain facts: fans turned, mirrored, turned over fold if they did.
-/
set_option maxRecDepth 1000000
set_option linter.unusedVariables false
namespace Go.Proofs.YthiammkiobbclaaGreat.X
open Go Go.Ab

end Go.Proofs.YthiammkiobbclaaGreat.X
/-
 What the functions on fans compute: fans turned, mirrored, turned over.
-/
set_option maxRecDepth 1000000
set_option linter.unusedVariables false
namespace Go.Proofs.YthiammkiobbclaaGreat.X
open Go Go.Ab

/-- A block that is not nil. -/
def blkN (k:IntKind)(a:List Int):Blk:=⟨.ints k a,1,a.length,none,some false,true,false⟩
/-- slices.Clone of a list that is not empty; of an empty one. -/
def eCloneP (k:IntKind):CtE
 |[.imm (.ints k1 a) n _]=>cond (beqK k1 k) (some ⟨.full 0 a.length,[blkN k a],some (n=a.length∧0<a.length∧a.length<100000000000)⟩) none
 |_=>none
structure L68 where (i j:Int)(l:List Int)
structure L21 where (i:Int)(l:List Int)
end Go.Proofs.YthiammkiobbclaaGreat.X
/-
 What the functions of the reductions compute: a fan reduced; folded; a fan behind an angle, by definition.
-/
set_option maxRecDepth 1000000
set_option linter.unusedVariables false
namespace Go.Proofs.YthiammkiobbclaaGreat.X
open Go Go.Ab

structure L13 where (i:Int)(k:List Int)
structure L18 where (o a k:List Int)
structure L22 where (f kk:Int)(a k:List Int)
structure M22 where (kk:Int)(a k:List Int)
end Go.Proofs.YthiammkiobbclaaGreat.X
