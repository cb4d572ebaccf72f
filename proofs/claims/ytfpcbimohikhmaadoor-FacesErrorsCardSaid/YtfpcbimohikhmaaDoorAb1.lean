/- An abstract reading of the program: what its operations do to what is known of memory. Part 1 of 6. -/
import Derived.AtR
import Derived.Orders
import GoSem.Core.Utf8
import Derived.Laws.Sem
import Derived.Laws.World
import Derived.Laws.Cells
import Derived.Laws.Append
import Derived.Laws.StructEq
import Derived.Laws.Rows
import Derived.IntWalk
import Derived.Laws.Strings

/-
 Abstract execution of the model's code: the data (abstract values, contents, states), the code with types resolved, one operation's abstract effect.
-/
namespace Go.Ab
open Go

structure MV where
 agg:Bool
 ks:List (Option IntKind)

mutual
inductive AV where
 |undef
 |bool (b:Bool)
 |int (k:IntKind) (n:Int)
 |str (s:List UInt8)
 |nilp
 |ptr (id off:Nat)
 |ep (id n off:Nat)
 |iptr (c:Cont)
 |nils
 |full (id len:Nat)
 |sl (id off len cap:Nat)
 |imm (c:Cont) (len:Nat) (cap:Option Nat)
 |fn (f:Nat) (first caps:List AV)
 |nilf
 |agg (l:List AV)
 |tup (l:List AV)
 |may (b:Bool) (v:AV)
 |iface (t:Nat) (v:AV)
 |nili
 |yld (id:Nat)
 |spare (id:Nat)
 |fullc (id len cap:Nat)
 |nn
 |mp (id:Nat)
 |vw (id n sz off len:Nat)
 |qu (id v d:Nat)
 |qe (id v i:Nat)
inductive Cont where
 |ints (k:IntKind) (l:List Int)
 |bools (l:List Bool)
 |strs (l:List (List UInt8))
 |vals (l:List AV)
 |cells (l:List AV)
 |maps (kk vk:MV) (es:List (List Int×List Int×Nat)) (ck:Nat)
end
instance:Inhabited AV:=⟨.undef⟩
instance:Inhabited Cont:=⟨.cells []⟩

namespace Cont
def size:Cont→Nat
 |.ints _ l=>l.length
 |.bools l=>l.length
 |.strs l=>l.length
 |.vals l=>l.length
 |.cells l=>l.length
 |.maps _ _ _ _=>0
def getV:Cont→Nat→AV
 |.ints k l,i=>.int k (l.getD i 0)
 |.bools l,i=>.bool (l.getD i false)
 |.strs l,i=>.str (l.getD i [])
 |.vals l,i=>l.getD i .undef
 |.cells l,i=>l.getD i .undef
 |.maps _ _ _ _,_=>.undef
def drop:Cont→Nat→Cont
 |.ints k l,i=>.ints k (l.drop i)
 |.bools l,i=>.bools (l.drop i)
 |.strs l,i=>.strs (l.drop i)
 |.vals l,i=>.vals (l.drop i)
 |.cells l,i=>.cells (l.drop i)
 |.maps kk vk es ck,_=>.maps kk vk es ck
def take:Cont→Nat→Cont
 |.ints k l,i=>.ints k (l.take i)
 |.bools l,i=>.bools (l.take i)
 |.strs l,i=>.strs (l.take i)
 |.vals l,i=>.vals (l.take i)
 |.cells l,i=>.cells (l.take i)
 |.maps kk vk es ck,_=>.maps kk vk es ck
def isMap:Cont→Bool
 |.maps _ _ _ _=>true
 |_=>false
end Cont

structure Blk where
 c:Cont
 sz:Nat
 n:Nat
 cap:Option Nat
 nil:Option Bool
 mu:Bool
 bx:Bool

def aget {α:Type}:List (Nat×α)→Nat→Option α
 |[],_=>none
 |(k,v)::r,t=>cond (Nat.beq k t) (some v) (aget r t)
def aset {α:Type}:List (Nat×α)→Nat→α→List (Nat×α)
 |[],t,v=>[(t,v)]
 |(k,x)::r,t,v=>cond (Nat.beq k t) ((k,v)::r) ((k,x)::aset r t v)
def adel {α:Type}:List (Nat×α)→Nat→List (Nat×α)
 |[],_=>[]
 |(k,x)::r,t=>cond (Nat.beq k t) (adel r t) ((k,x)::adel r t)
def asets {α:Type}:List (Nat×α)→List (Nat×α)→List (Nat×α)
 |l,[]=>l
 |l,(k,v)::r=>asets (aset l k v) r
def memN:Nat→List Nat→Bool
 |_,[]=>false
 |x,y::r=>cond (Nat.beq y x) true (memN x r)

inductive Opd where
 |t (n:Nat)
 |c (v:AV)
 |g (n:Nat)

inductive XOp where
 |mv (x:Opd)
 |pick (c a b:Opd)
 |new (z:Cont) (n sz:Nat)
 |box (x:Opd)
 |load (agg:Option Nat) (a:Opd)
 |store (sz:Nat) (a x:Opd)
 |bin (op:BinOp) (x y:Opd)
 |eqb (neq:Bool) (x y:Opd)
 |eqa (neq:Bool) (n:Nat) (leaves:List (Nat×Nat)) (x y:Opd)
 |isnil (neq:Bool) (kd:Nat) (x:Opd)
 |un (op:UnOp) (x:Opd)
 |conv (k:IntKind) (x:Opd)
 |same (x:Opd)
 |fieldA (off:Nat) (x:Opd)
 |field (off:Nat) (agg:Option Nat) (x:Opd)
 |idxA (arr:Option Nat) (sz:Nat) (x i:Opd)
 |idx (len sz:Nat) (agg:Bool) (x i:Opd)
 |idxs (x i:Opd)
 |slice (sz:Nat) (x:Opd) (lo hi mx:Option Opd)
 |slices (x:Opd) (lo hi:Option Opd)
 |slicea (n sz:Nat) (x:Opd) (lo hi mx:Option Opd)
 |lens (x:Opd)
 |len (x:Opd)
 |lena (n:Nat) (x:Opd)
 |cap (x:Opd)
 |append (sz bytes:Nat) (ty:Nat) (x y:Opd)
 |copy (sz:Nat) (x y:Opd)
 |build (z:List AV) (parts:List (Nat×Nat×Opd))
 |buildS (sz len:Nat) (ty:Nat) (z:List AV) (parts:List (Nat×Nat×Opd))
 |mks (sz bytes:Nat) (ty:Nat) (z:List AV) (len cap:Opd)
 |mkf (f:Nat) (first caps:List Opd)
 |ext (x:Opd) (i:Nat)
 |call (f:Nat) (args:List Opd)
 |callv (x:Opd) (args:List Opd)
 |mm (max:Bool) (args:List Opd)
 |nilck (x:Opd)
 |mki (t:Nat) (x:Opd)
 |rng (x:Opd)
 |nxt (x:Opd)
 |bstr (x:Opd)
 |growz (sz bytes:Nat) (ty:Nat) (x n:Opd)
 |rstr (x:Opd)
 |mkmap (kk vk:MV) (r:List Opd)
 |mlook (kk vk:MV) (ok:Bool) (m k:Opd)
 |mput (kk vk:MV) (m k v:Opd)
 |mdel (kk vk:MV) (m k:Opd)
 |mlen (m:Opd)
 |sbyt (x:Opd)
 |clear (sz:Nat) (z:List AV) (x:Opd)
 |rngm (x:Opd)
 |nxtm (x:Opd)
 |ent (x:Opd)
 |ment (kk vk:MV) (m k:Opd)
 |mst (kk vk:MV) (m s v:Opd)
 |inv (tab:List (Nat×(Nat×Option (Option Nat)))) (x:Opd) (args:List Opd)
 |tas (t:Nat) (x:Opd)
 |bad

structure XO where
 dst:Option Nat
 op:XOp
 guard:Option (Nat×Bool)

inductive XC where
 |skip
 |reg (s:Nat) (xs:List XO) (dead:List Nat)
 |draw (s:Nat) (xs:List XO) (dep:List (List Nat)) (ord:List Nat) (dead:List Nat)
 |seq (a b:XC)
 |cond (c:Opd) (a b:XC)
 |block (id:Nat) (a:XC)
 |loop (a:XC)
 |exit (id:Nat)
 |ret
 |rangeF (g:Opd) (ps:List Nat) (as bd:XC)
 |scope (a:XC)
 |bad

inductive Ex where
 |normal
 |exit (id:Nat)
 |ret

structure LoopS where
 st:Nat
 pend:Option Ex
 t:List (Nat×AV)
 n:Nat
 ps:List Nat
 as:XC
 bd:XC

inductive HO where
 |blk (b:Blk)
 |iter (s:List UInt8) (pos:Nat)
 |loop (l:LoopS)
 |que (k:IntKind) (l:List Int) (v:Nat)
 |mit (m ck:Nat) (seen:List Nat)
def HO.box:HO→Bool
 |.blk b=>b.bx
 |.iter _ _=>true
 |.loop _=>true
 |.que _ _ _=>false
 |.mit _ _ _=>true

structure St where
 t:List (Nat×AV)
 h:List (Nat×HO)
 n:Nat

structure GL where
 g:Nat→Option Cont
 cm:Code→XC→Prop
 strong:Prop:=False

inductive Cd where
 |b (x:Bool)
 |ge (g want:Bool) (c:Cd)
 |eqn (x y:Nat)
 |get (l:List AV) (i:Nat) (v:AV)
 |call (f:Nat) (args:List AV) (ret:AV) (hs:List Blk)
 |callD (cv:AV) (args:List AV) (h:List (Nat×HO)) (v:AV) (ws:List (Nat×HO)) (al:List Nat)

structure Delta where
 v:AV
 ws:List (Nat×HO)
 al:List Nat
 cs:List Cd

inductive Dir where
 |plain
 |wrap
 |ret (v:AV) (hs:List Blk)
 |val (l:List AV)
 |may
 |skip
 |ctr (ct:Nat→List AV→Option (AV×List Blk))
 |tab (w:Bool) (tb:Nat→List (Nat×HO)→AV→List AV→Option Delta)
 |pk (b:Bool)

def Opd.ev (G:GL)(t:List (Nat×AV)):Opd→AV
 |.t n=>(aget t n).getD .undef
 |.c v=>v
 |.g n=>match G.g n with|some k=>.iptr k|none=>.undef

/-! ### Helpers of the operations -/

def roomMax:Nat:=140737488355328
def capMax:Nat:=9223372036854775807
def inR (k:IntKind)(n:Int):Bool:=decide (k.min≤n∧n≤k.max)
def ltb (x y:Int):Bool:=decide (x<y)
def leb (x y:Int):Bool:=decide (x≤y)
def ltn (x y:Nat):Bool:=decide (x<y)
def len' (x y:Nat):Bool:=decide (x≤y)
def beqK (a b:IntKind):Bool:=decide (a=b)
def bitI (op:BinOp)(k:IntKind)(x y:Int):Int:=
 let a:=BitVec.ofInt k.bits x
 let b:=BitVec.ofInt k.bits y
 match op with
 |.and=>k.wrap (a &&& b).toNat
 |.or=>k.wrap (a ||| b).toNat
 |.xor=>k.wrap (a ^^^ b).toNat
 |_=>k.wrap (a &&& ~~~b).toNat

mutual
def refsV:AV→List Nat
 |.ptr id _=>[id]
 |.ep id _ _=>[id]
 |.full id _=>[id]
 |.sl id _ _ _=>[id]
 |.fn _ a b=>refsL a++refsL b
 |.agg l=>refsL l
 |.tup l=>refsL l
 |.may _ v=>refsV v
 |.iface _ v=>refsV v
 |.yld id=>[id]
 |.spare id=>[id]
 |.fullc id _ _=>[id]
 |.mp id=>[id]
 |.vw id _ _ _ _=>[id]
 |.qu id _ _=>[id]
 |.qe id _ _=>[id]
 |_=>[]
def refsL:List AV→List Nat
 |[]=>[]
 |v::r=>refsV v++refsL r
end
def refsT:List (Nat×AV)→List Nat
 |[]=>[]
 |(_,v)::r=>refsV v++refsT r
def refsC:Cont→List Nat
 |.cells l=>refsL l
 |_=>[]
def refsH:Option HO→List Nat
 |some (.blk b)=>refsC b.c
 |some (.loop l)=>refsT l.t
 |some (.mit m _ _)=>[m]
 |_=>[]
def keys {α:Type}:List (Nat×α)→List Nat
 |[]=>[]
 |(k,_)::r=>k::keys r
def reachW (look:Nat→Option HO):Nat→List Nat→List Nat→List Nat
 |0,_,seen=>seen
 |_+1,[],seen=>seen
 |n+1,i::r,seen=>cond (memN i seen) (reachW look n r seen) (reachW look n (refsH (look i)++r) (i::seen))
def readF (look:Nat→Option HO):List Nat→List (Nat×HO)
 |[]=>[]
 |i::r=>match look i with
  |some o=>(i,o)::readF look r
  |none=>readF look r
def allIn:List Nat→List Nat→Bool
 |[],_=>true
 |x::r,l=>cond (memN x l) (allIn r l) false
def noneIn:List Nat→List Nat→Bool
 |[],_=>true
 |x::r,l=>cond (memN x l) false (noneIn r l)
def closedH (ks:List Nat):List (Nat×HO)→Bool
 |[]=>true
 |(_,o)::r=>cond (allIn (refsH (some o)) ks) (closedH ks r) false

def mz (x sz:Nat):Nat:=match sz with|1=>x|_=>x*sz
def az (off x:Nat):Nat:=match off with|0=>x|_=>off+x

mutual
def frzV (look:Nat→Option HO):Nat→AV→Option (AV×List Nat×List Cd)
 |0,_=>none
 |n+1,v=>
  match v with
  |.ptr id off=>match look id with
   |some (.blk b)=>match frzC look n b.c with
    |some (c,ids,cs)=>some (.iptr (c.drop off),id::ids,cs)
    |none=>none
   |_=>none
  |.ep id m off=>match look id with
   |some (.blk b)=>match frzC look n b.c with
    |some (c,ids,cs)=>some (.iptr (c.drop off),id::ids,.eqn b.n m::cs)
    |none=>none
   |_=>none
  |.full id len=>match look id with
   |some (.blk b)=>match frzC look n b.c with
    |some (c,ids,cs)=>some (.imm c len b.cap,id::ids,.eqn b.n len::cs)
    |none=>none
   |_=>none
  |.fullc id len cap=>match look id with
   |some (.blk b)=>match frzC look n b.c with
    |some (c,ids,cs)=>some (.imm c len (some cap),id::ids,.eqn b.n len::cs)
    |none=>none
   |_=>none
  |.sl id off len cap=>match look id with
   |some (.blk b)=>match frzC look n b.c with
    |some (c,ids,cs)=>some (.imm ((c.drop off).take (mz len b.sz)) len (some cap),id::ids,.b (len' (off+mz len b.sz) b.c.size)::cs)
    |none=>none
   |_=>none
  |.vw id m sz off len=>match look id with
   |some (.blk b)=>match frzC look n b.c with
    |some (c,ids,cs)=>cond (Nat.beq b.sz sz) (some (.imm ((c.drop (mz off sz)).take (mz len sz)) len none,id::ids,.eqn b.n m::cs)) none
    |none=>none
   |_=>none
  |.fn f a b=>match frzL look n a,frzL look n b with
   |some (a',i,cs),some (b',j,cs')=>some (.fn f a' b',i++j,cs++cs')
   |_,_=>none
  |.agg l=>match frzL look n l with
   |some (l',i,cs)=>some (.agg l',i,cs)
   |none=>none
  |.tup l=>match frzL look n l with
   |some (l',i,cs)=>some (.tup l',i,cs)
   |none=>none
  |.may _ _=>none
  |.yld _=>none
  |.spare _=>none
  |.mp _=>none
  |.qu _ _ _=>none
  |.qe _ _ _=>none
  |.iface t x=>match frzV look n x with
   |some (x',i,cs)=>some (.iface t x',i,cs)
   |none=>none
  |.undef=>none
  |v=>some (v,[],[])
def frzL (look:Nat→Option HO):Nat→List AV→Option (List AV×List Nat×List Cd)
 |0,_=>none
 |n+1,l=>
  match l with
  |[]=>some ([],[],[])
  |v::r=>match frzV look n v,frzL look n r with
   |some (v',i,cs),some (r',j,cs')=>some (v'::r',i++j,cs++cs')
   |_,_=>none
def frzC (look:Nat→Option HO):Nat→Cont→Option (Cont×List Nat×List Cd)
 |0,_=>none
 |n+1,c=>
  match c with
  |.cells l=>match frzL look n l with
   |some (l',i,cs)=>some (.vals l',i,cs)
   |none=>none
  |c=>some (c,[],[])
end

def frzW (look:Nat→Option HO):List Nat→List (Nat×HO)
 |[]=>[]
 |i::r=>match look i with
  |some (.blk b)=>cond b.mu ((i,.blk {b with mu:=false})::frzW look r) (frzW look r)
  |_=>frzW look r

def AV.plain:AV→Bool
 |.may _ _=>false
 |.undef=>false
 |_=>true
def AV.cell:AV→Bool
 |.may _ _=>false
 |.undef=>false
 |.agg _=>false
 |.tup _=>false
 |_=>true
def allCell:List AV→Bool
 |[]=>true
 |v::r=>v.cell&&allCell r
def AV.cs:AV→List AV
 |.agg l=>l
 |v=>[v]

def intsOf (k:IntKind):List AV→Option (List Int)
 |[]=>some []
 |.int k' n::r=>cond (beqK k k') (match intsOf k r with|some l=>some (n::l)|none=>none) none
 |_=>none
def boolsOf:List AV→Option (List Bool)
 |[]=>some []
 |.bool b::r=>match boolsOf r with|some l=>some (b::l)|none=>none
 |_=>none
def strsOf:List AV→Option (List (List UInt8))
 |[]=>some []
 |.str b::r=>match strsOf r with|some l=>some (b::l)|none=>none
 |_=>none
def kindOf:Nat→IntKind
 |1=>.i8|2=>.i16|3=>.i32|4=>.i64|5=>.u8|6=>.u16|7=>.u32|_=>.u64
def contOf (ty:Nat)(l:List AV):Option Cont:=
 match ty with
 |0=>some (.cells l)
 |9=>match boolsOf l with|some l=>some (.bools l)|none=>none
 |10=>match strsOf l with|some l=>some (.strs l)|none=>none
 |ty=>match intsOf (kindOf ty) l with|some l'=>some (.ints (kindOf ty) l')|none=>none
def emptyOf (ty:Nat):Cont:=
 match ty with
 |0=>.vals []
 |9=>.bools []
 |10=>.strs []
 |ty=>.ints (kindOf ty) []
def Cont.app:Cont→Cont→Option Cont
 |.ints k l,.ints k' l'=>cond (beqK k k') (some (.ints k (l++l'))) none
 |.bools l,.bools l'=>some (.bools (l++l'))
 |.strs l,.strs l'=>some (.strs (l++l'))
 |.vals l,.vals l'=>some (.vals (l++l'))
 |_,_=>none
def Cont.set1:Cont→Nat→AV→Option Cont
 |.ints k l,i,.int k' n=>cond (beqK k k') (some (.ints k (l.set i n))) none
 |.bools l,i,.bool b=>some (.bools (l.set i b))
 |.strs l,i,.str s=>some (.strs (l.set i s))
 |.cells l,i,v=>some (.cells (l.set i v))
 |.vals l,i,.int k n=>some (.vals (l.set i (.int k n)))
 |.vals l,i,.bool b=>some (.vals (l.set i (.bool b)))
 |.vals l,i,.str b=>some (.vals (l.set i (.str b)))
 |.vals l,i,.imm c n cap=>some (.vals (l.set i (.imm c n cap)))
 |.vals l,i,.nils=>some (.vals (l.set i .nils))
 |_,_,_=>none
def Cont.setL:Cont→Nat→List AV→Option Cont
 |c,_,[]=>some c
 |c,i,v::r=>match c.set1 i v with|some c'=>c'.setL (i+1) r|none=>none
def Cont.over:Cont→Nat→Cont→Option Cont
 |.ints k l,i,.ints k' l'=>cond (beqK k k') (some (.ints k (l.take i++l'++l.drop (i+l'.length)))) none
 |.bools l,i,.bools l'=>some (.bools (l.take i++l'++l.drop (i+l'.length)))
 |.strs l,i,.strs l'=>some (.strs (l.take i++l'++l.drop (i+l'.length)))
 |.vals l,i,.vals l'=>some (.vals (l.take i++l'++l.drop (i+l'.length)))
 |_,_,_=>none
def Cont.getN (c:Cont)(i:Nat):Nat→List AV
 |0=>[]
 |n+1=>c.getV i::c.getN (i+1) n

def setAll:List AV→Nat→List AV→List AV
 |z,_,[]=>z
 |z,i,v::r=>setAll (z.set i v) (i+1) r
def fillL:List AV→List (Nat×Nat)→List AV→Option (List AV)
 |z,[],[]=>some z
 |z,(off,size)::ps,v::vs=>
  cond (v.plain&&(Nat.beq v.cs.length size&&len' (off+size) z.length)) (fillL (setAll z off v.cs) ps vs) none
 |_,_,_=>none
def repL {α:Type}(l:List α):Nat→List α
 |0=>[]
 |n+1=>l++repL l n

def srcOf (look:Nat→Option HO)(sz:Nat):AV→Option (Cont×Nat×List Cd)
 |.imm c len _=>some (c,len,[.eqn c.size (mz len sz)])
 |.full id len=>match look id with
  |some (.blk b)=>cond (Nat.beq b.sz sz) (some (b.c,len,[.eqn b.n len])) none
  |_=>none
 |.sl id off len _=>match look id with
  |some (.blk b)=>cond (Nat.beq b.sz sz) (some ((b.c.drop off).take (mz len sz),len,[.b (len' (off+mz len sz) b.c.size)])) none
  |_=>none
 |.vw id n s off len=>match look id with
  |some (.blk b)=>cond (Nat.beq b.sz sz&&Nat.beq s sz) (some ((b.c.drop (mz off sz)).take (mz len sz),len,[.eqn b.n n])) none
  |_=>none
 |_=>none

mutual
def shiftV (base:Nat):AV→AV
 |.ptr id off=>.ptr (base+id) off
 |.ep id n off=>.ep (base+id) n off
 |.full id len=>.full (base+id) len
 |.sl id off len cap=>.sl (base+id) off len cap
 |.fn f a b=>.fn f (shiftL base a) (shiftL base b)
 |.agg l=>.agg (shiftL base l)
 |.tup l=>.tup (shiftL base l)
 |.may b v=>.may b (shiftV base v)
 |.iface t v=>.iface t (shiftV base v)
 |.yld id=>.yld (base+id)
 |.spare id=>.spare (base+id)
 |.fullc id len cap=>.fullc (base+id) len cap
 |.mp id=>.mp (base+id)
 |.vw id n sz off len=>.vw (base+id) n sz off len
 |.qu id v d=>.qu (base+id) v d
 |.qe id v i=>.qe (base+id) v i
 |v=>v
def shiftL (base:Nat):List AV→List AV
 |[]=>[]
 |v::r=>shiftV base v::shiftL base r
end
def shiftC (base:Nat):Cont→Cont
 |.cells l=>.cells (shiftL base l)
 |c=>c
def idsH (base:Nat):Nat→List Blk→List Nat
 |_,[]=>[]
 |j,_::r=>(base+j)::idsH base (j+1) r
def shiftH (base:Nat):Nat→List Blk→List (Nat×HO)
 |_,[]=>[]
 |j,b::r=>(base+j,.blk {b with c:=shiftC base b.c})::shiftH base (j+1) r

/-! ### One operation's effect -/

def XOp.opds:XOp→List Opd
 |.mv x|.box x|.load _ x|.un _ x|.conv _ x|.same x|.fieldA _ x|.field _ _ x|.lens x|.len x|.lena _ x|.cap x|.ext x _|.nilck x|.mki _ x|.rng x|.nxt x|.bstr x|.rstr x|.sbyt x|.clear _ _ x|.rngm x|.nxtm x|.ent x|.tas _ x|.isnil _ _ x=>[x]
 |.pick c a b=>[c,a,b]
 |.new _ _ _=>[]
 |.mkmap _ _ r=>r
 |.mlook _ _ _ m k=>[m,k]
 |.mput _ _ m k v=>[m,k,v]
 |.ment _ _ m k=>[m,k]
 |.mst _ _ m s v=>[m,s,v]
 |.mdel _ _ m k=>[m,k]
 |.mlen m=>[m]
 |.bad=>[]
 |.store _ a x=>[a,x]
 |.bin _ x y|.eqb _ x y|.eqa _ _ _ x y|.idxA _ _ x y|.idx _ _ _ x y|.idxs x y|.append _ _ _ x y|.copy _ x y|.growz _ _ _ x y=>[x,y]
 |.slice _ x lo hi mx|.slicea _ _ x lo hi mx=>x::(lo.toList++hi.toList++mx.toList)
 |.slices x lo hi=>x::(lo.toList++hi.toList)
 |.build _ ps=>ps.map (·.2.2)
 |.buildS _ _ _ _ ps=>ps.map (·.2.2)
 |.mks _ _ _ _ l c=>[l,c]
 |.mkf _ a b=>a++b
 |.call _ as=>as
 |.callv x as=>x::as
 |.inv _ x as=>x::as
 |.mm _ as=>as

def Delta.val (v:AV)(cs:List Cd:=[]):Option Delta:=some {v,ws:=[],al:=[],cs}

def intRes (d:Dir)(k:IntKind)(n:Int)(cs:List Cd:=[]):Option Delta:=
 match d with
 |.wrap=>Delta.val (.int k (k.wrap n)) cs
 |.tab true _=>Delta.val (.int k (k.wrap n)) cs
 |_=>Delta.val (.int k n) (.b (inR k n)::cs)

def binI (d:Dir)(op:BinOp)(k:IntKind)(x y:Int):Option Delta:=
 match op with
 |.add=>intRes d k (x+y)
 |.sub=>intRes d k (x-y)
 |.mul=>intRes d k (x*y)
 |.quo=>intRes d k (x.tdiv y) [.b (!(y==0))]
 |.rem=>Delta.val (.int k (x.tmod y)) [.b (!(y==0))]
 |.and|.or|.xor|.andNot=>Delta.val (.int k (bitI op k x y))
 |.shl|.shr=>none
 |.eql=>Delta.val (.bool (x==y))
 |.neq=>Delta.val (.bool (x !=y))
 |.lss=>Delta.val (.bool (ltb x y))
 |.leq=>Delta.val (.bool (leb x y))
 |.gtr=>Delta.val (.bool (ltb y x))
 |.geq=>Delta.val (.bool (leb y x))
def binS (op:BinOp)(x y:List UInt8):Option Delta:=
 match op with
 |.add=>Delta.val (.str (x++y)) [.b (len' (x.length+y.length) 9223372036854775807)]
 |.eql=>Delta.val (.bool (x==y))
 |.neq=>Delta.val (.bool (!(x==y)))
 |.lss=>Delta.val (.bool (Op.bytesLess x y))
 |.leq=>Delta.val (.bool (Op.bytesLess x y||x==y))
 |.gtr=>Delta.val (.bool (!(Op.bytesLess x y||x==y)))
 |.geq=>Delta.val (.bool (!Op.bytesLess x y))
 |_=>none

def eqLeaf (kd:Nat)(x y:AV):Option Bool:=
 match kd with
 |0=>match x,y with
  |.int k x,.int k' y=>cond (beqK k k') (some (x==y)) none
  |_,_=>none
 |1=>match x,y with
  |.bool x,.bool y=>some (x==y)
  |_,_=>none
 |_=>match x,y with
  |.str x,.str y=>some (x==y)
  |_,_=>none
def eqLeaves:List (Nat×Nat)→List AV→List AV→Option Bool
 |[],_,_=>some true
 |[(i,kd)],xs,ys=>eqLeaf kd (xs.getD i .undef) (ys.getD i .undef)
 |(i,kd)::r,xs,ys=>match eqLeaf kd (xs.getD i .undef) (ys.getD i .undef),eqLeaves r xs ys with
  |some a,some b=>some (a&&b)
  |_,_=>none

def negIf (neq:Bool)(b:Bool):Bool:=match neq with|true=> !b|false=>b

def Dir.gen (d:Dir)(len:Nat):Bool:=
 match d with
 |.wrap=>true
 |.tab _ _=> !Nat.beq len 0
 |_=>false
def Dir.emp (d:Dir)(len:Nat):Bool:=
 match d with
 |.wrap=>true
 |.tab _ _=>Nat.beq len 0
 |_=>false
def Dir.same (d:Dir):Bool:=
 match d with
 |.pk true=>true
 |_=>false
def Dir.open3 (d:Dir):Bool:=
 match d with
 |.tab _ _=>true
 |.pk _=>true
 |_=>false
def Dir.vals:Dir→Option (List AV)
 |.val l=>some l
 |_=>none
def getAll (l:List AV):Nat→List AV→List Cd
 |_,[]=>[]
 |i,v::r=>.get l i v::getAll l (i+1) r
def litC:Cont→Option (List AV)
 |.vals l=>some l
 |.cells l=>some l
 |_=>none
def loadV (c:Cont)(off:Nat)(agg:Option Nat)(vs:List AV):Option Delta:=
 match litC c with
 |some l=>match agg with
  |none=>match vs with
   |[v]=>Delta.val v [.get l off v]
   |_=>none
  |some n=>cond (Nat.beq vs.length n) (Delta.val (.agg vs) (getAll l off vs)) none
 |none=>none
def loadC (d:Dir)(c:Cont)(off:Nat)(agg:Option Nat):Option Delta:=
 match d.vals with
 |some vs=>loadV c off agg vs
 |none=>match agg with
  |none=>Delta.val (c.getV off) [.b (ltn off c.size)]
  |some n=>Delta.val (.agg (c.getN off n)) [.b (len' (off+n) c.size)]

def mmF (max:Bool):List AV→Option AV
 |[]=>none
 |.int k x::r=>mmG k x r
 |_=>none
where
 mmG (k:IntKind) (x:Int):List AV→Option AV
  |[]=>some (.int k x)
  |.int k' y::r=>cond (beqK k k') (mmG k (match max with|true=>if y>x then y else x|false=>if y<x then y else x) r) none
  |_=>none

def x1 (vs:List AV):AV:=vs.getD 0 .undef
def x2 (vs:List AV):AV:=vs.getD 1 .undef
def x3 (vs:List AV):AV:=vs.getD 2 .undef

def gval:Nat→AV→Option (Bool×Bool)
 |0,_=>none
 |f+1,v=>match v with
  |.bool b=>some (true,b)
  |.may g u=>match gval f u with
   |some (d,b)=>some (g&&d,b)
   |none=>none
  |_=>none
def pval:AV→Option (Bool×Bool)
 |.undef=>some (false,false)
 |v=>gval 8 v
def mkMay (e:Bool):AV→AV
 |.may g u=>.may (e&&g) u
 |v=>.may e v
def opPick (c x y:AV):Option Delta:=
 match gval 8 c,pval x,pval y with
 |some (dc,c),some (dx,x),some (dy,y)=>Delta.val (.bool (cond c x y)) [.b dc,.b (cond c dx dy)]
 |_,_,_=>none
def opPickD (d:Dir)(c x y:AV):Option Delta:=
 match d with
 |.pk b=>match gval 8 c,pval (cond b x y)with
  |some (dc,c),some (dx,x)=>Delta.val (.bool x) [.b dc,.b (negIf (!b) c),.b dx]
  |_,_=>none
 |_=>opPick c x y
def opNew (site:Nat)(z:Cont)(n sz:Nat):Option Delta:=
 cond (Nat.beq z.size (n*sz)&& !z.isMap) (some {v:=.ptr site 0,ws:=[(site,.blk {c:=z,sz:=sz,n:=n,cap:=none,nil:=some false,mu:=true,bx:=true})],al:=[site],cs:=[]}) none
def opLoad (look:Nat→Option HO)(d:Dir)(agg:Option Nat)(x:AV):Option Delta:=
 match x with
 |.ptr id off=>match look id with
  |some (.blk b)=>loadC d b.c off agg
  |_=>none
 |.ep id n off=>match look id with
  |some (.blk b)=>match loadC d b.c off agg with
   |some r=>some {r with cs:=.eqn b.n n::r.cs}
   |none=>none
  |_=>none
 |.iptr c=>loadC d c 0 agg
 |.qe id v i=>match look id,agg with
  |some (.que k l v'),none=>Delta.val (.int k (l.getD i 0)) [.eqn v' v,.b (ltn i l.length)]
  |_,_=>none
 |_=>none
def opStore (look:Nat→Option HO)(sz:Nat)(a x:AV):Option Delta:=
 match a with
 |.ptr id off=>match look id with
  |some (.blk b)=>cond (b.mu&&(allCell x.cs&&Nat.beq x.cs.length sz)) (match b.c.setL off x.cs with
   |some c=>some {v:=.undef,ws:=[(id,.blk {b with c})],al:=[],cs:=[.b (len' (off+sz) b.c.size)]}
   |none=>none) none
  |_=>none
 |.ep id n off=>match look id with
  |some (.blk b)=>cond (b.mu&&(allCell x.cs&&Nat.beq x.cs.length sz)) (match b.c.setL off x.cs with
   |some c=>some {v:=.undef,ws:=[(id,.blk {b with c})],al:=[],cs:=[.eqn b.n n,.b (len' (off+sz) b.c.size)]}
   |none=>none) none
  |_=>none
 |_=>none
def opStoreF (look:Nat→Option HO)(sz:Nat)(a x:AV):Option Delta:=
 match a with
 |.ep id n off=>match look id with
  |some (.blk b)=>match frzV look 60 x with
   |some (x',ids,cs')=>cond (b.mu&&(!memN id ids&&(allCell x'.cs&&Nat.beq x'.cs.length sz))) (match b.c.setL off x'.cs with
    |some c=>some {v:=.undef,ws:=frzW look ids++[(id,.blk {b with c})],al:=[],cs:=.eqn b.n n:: .b (len' (off+sz) b.c.size)::cs'}
    |none=>none) none
   |none=>none
  |_=>none
 |_=>none
def opStoreS (look:Nat→Option HO)(sz:Nat)(a x:AV):Option Delta:=
 match opStore look sz a x with
 |some D=>some D
 |none=>opStoreF look sz a x
def opBin (d:Dir)(op:BinOp)(x y:AV):Option Delta:=
 match x,y with
 |.int k x,.int k' y=>match op with
  |.shl=>intRes d k (x*2 ^ (min y.toNat k.bits)) [.b (leb 0 y)]
  |.shr=>Delta.val (.int k (x.fdiv (2 ^ (min y.toNat k.bits)))) [.b (leb 0 y)]
  |op=>cond (beqK k k') (binI d op k x y) none
 |.str x,.str y=>binS op x y
 |_,_=>none
def opEqb (neq:Bool)(x y:AV):Option Delta:=
 match x,y with
 |.bool x,.bool y=>Delta.val (.bool (negIf neq (x==y)))
 |_,_=>none
def opEqa (neq:Bool)(n:Nat)(ls:List (Nat×Nat))(x y:AV):Option Delta:=
 match x,y with
 |.agg x,.agg y=>cond (Nat.beq x.length n&&Nat.beq y.length n) (match eqLeaves ls x y with
  |some b=>Delta.val (.bool (negIf neq b))
  |none=>none) none
 |_,_=>none
def opIsnil (look:Nat→Option HO)(neq:Bool)(kd:Nat)(x:AV):Option Delta:=
 match kd with
 |0=>match x with
  |.full id len=>match look id with
   |some (.blk b)=>match b.nil with
    |some nil=>Delta.val (.bool (negIf neq (nil&&Nat.beq len 0))) [.eqn b.n len]
    |none=>none
   |_=>none
  |.nils=>Delta.val (.bool (negIf neq true))
  |.imm _ len _=>Delta.val (.bool (negIf neq false)) [.b (ltn 0 len)]
  |.sl _ _ _ _=>Delta.val (.bool (negIf neq false))
  |.nn=>Delta.val (.bool (negIf neq false))
  |_=>none
 |1=>match x with
  |.nilf=>Delta.val (.bool (negIf neq true))
  |.fn _ _ _=>Delta.val (.bool (negIf neq false))
  |.yld _=>Delta.val (.bool (negIf neq false))
  |_=>none
 |_=>match x with
  |.nilp=>Delta.val (.bool (negIf neq true))
  |.ptr _ _=>Delta.val (.bool (negIf neq false))
  |.iptr _=>Delta.val (.bool (negIf neq false))
  |_=>none
def opUn (d:Dir)(op:UnOp)(x:AV):Option Delta:=
 match op,x with
 |.neg,.int k n=>intRes d k (0-n)
 |.not,.bool b=>Delta.val (.bool (!b))
 |_,_=>none
def opConv (d:Dir)(k:IntKind)(x:AV):Option Delta:=
 match x with
 |.int _ n=>intRes d k n
 |_=>none
def opFieldA (look:Nat→Option HO)(f:Nat)(x:AV):Option Delta:=
 match x with
 |.ptr id off=>Delta.val (.ptr id (off+f))
 |.ep id n off=>match look id with
  |some (.blk b)=>Delta.val (.ep id n (off+f)) [.eqn b.n n]
  |_=>none
 |.iptr c=>Delta.val (.iptr (c.drop f))
 |_=>none
def opField (off:Nat)(agg:Option Nat)(x:AV):Option Delta:=
 match x with
 |.agg l=>match agg with
  |none=>Delta.val (l.getD off .undef) [.b (ltn off l.length)]
  |some n=>Delta.val (.agg ((l.drop off).take n)) [.b (len' (off+n) l.length)]
 |_=>none
def opIdxA (look:Nat→Option HO)(arr:Option Nat)(sz:Nat)(x i:AV):Option Delta:=
 match i with
 |.int _ i=>match arr with
  |none=>match x with
   |.full id len=>match look id with
    |some (.blk b)=>cond (Nat.beq b.sz sz) (Delta.val (.ep id len (mz i.toNat sz)) [.b (leb 0 i),.b (ltb i len),.eqn b.n len]) none
    |_=>none
   |.sl id off len _=>Delta.val (.ptr id (az off (mz i.toNat sz))) [.b (leb 0 i),.b (ltb i len)]
   |.vw id n s off len=>match look id with
    |some (.blk b)=>cond (Nat.beq b.sz sz&&Nat.beq s sz) (Delta.val (.ep id n (mz (az off i.toNat) sz)) [.b (leb 0 i),.b (ltb i len),.eqn b.n n]) none
    |_=>none
   |.imm c len _=>Delta.val (.iptr (c.drop (mz i.toNat sz))) [.b (leb 0 i),.b (ltb i len),.b (ltn 0 c.size)]
   |.qu id v d=>match look id with
    |some (.que _ l v')=>cond (Nat.beq sz 1) (Delta.val (.qe id v (d+i.toNat)) [.b (leb 0 i),.b (ltn (d+i.toNat) l.length),.eqn v' v]) none
    |_=>none
   |_=>none
  |some n=>match x with
   |.ptr id off=>Delta.val (.ptr id (az off (mz i.toNat sz))) [.b (leb 0 i),.b (ltb i n)]
   |.iptr c=>Delta.val (.iptr (c.drop (mz i.toNat sz))) [.b (leb 0 i),.b (ltb i n)]
   |_=>none
 |_=>none
def opIdx (n sz:Nat)(agg:Bool)(x i:AV):Option Delta:=
 match x,i with
 |.agg l,.int _ i=>match agg with
  |false=>Delta.val (l.getD (mz i.toNat sz) .undef) [.b (leb 0 i),.b (ltb i n),.b (ltn (mz i.toNat sz) l.length)]
  |true=>Delta.val (.agg ((l.drop (mz i.toNat sz)).take sz)) [.b (leb 0 i),.b (ltb i n),.b (len' (mz i.toNat sz+sz) l.length)]
 |_,_=>none
def opIdxD (d:Dir)(n sz:Nat)(agg:Bool)(x i:AV):Option Delta:=
 match d.vals with
 |some vs=>match x,i,agg,vs with
  |.agg l,.int _ i,false,[v]=>Delta.val v [.b (leb 0 i),.b (ltb i n),.get l (mz i.toNat sz) v]
  |.agg l,.int _ i,true,[v,v']=>cond (Nat.beq sz 2) (Delta.val (.agg [v,v']) [.b (leb 0 i),.b (ltb i n),.get l (mz i.toNat sz) v,.get l (mz i.toNat sz+1) v']) none
  |_,_,_,_=>none
 |none=>opIdx n sz agg x i
def opIdxs (x i:AV):Option Delta:=
 match x,i with
 |.str s,.int _ i=>Delta.val (.int .u8 (s.getD i.toNat 0).toNat) [.b (leb 0 i),.b (ltb i s.length)]
 |_,_=>none
def opWin (id off len cap sz:Nat)(lo hi mx:Bool)(bs:List AV):Option Delta:=
 match lo,hi,mx with
 |false,false,false=>Delta.val (.sl id off len cap)
 |true,false,false=>match x1 bs with
  |.int _ l=>Delta.val (.sl id (az off (mz l.toNat sz)) (len-l.toNat) (cap-l.toNat)) [.b (leb 0 l),.b (len' l.toNat len),.b (ltn l.toNat cap)]
  |_=>none
 |false,true,false=>match x1 bs with
  |.int _ h=>Delta.val (.sl id off h.toNat cap) [.b (leb 0 h),.b (len' h.toNat cap)]
  |_=>none
 |true,true,false=>match x1 bs,x2 bs with
  |.int _ l,.int _ h=>Delta.val (.sl id (az off (mz l.toNat sz)) (h.toNat-l.toNat) (cap-l.toNat)) [.b (leb 0 l),.b (leb l h),.b (len' h.toNat cap),.b (ltn l.toNat cap)]
  |_,_=>none
 |false,true,true=>match x1 bs,x2 bs with
  |.int _ h,.int _ m=>Delta.val (.sl id off h.toNat m.toNat) [.b (leb 0 h),.b (leb h m),.b (len' m.toNat cap)]
  |_,_=>none
 |_,_,_=>none
def winV:AV→Option (Nat×Nat×Nat×Nat)
 |.sl id off len cap=>some (id,off,len,cap)
 |_=>none
def opSlice (look:Nat→Option HO)(d:Dir)(sz:Nat)(lo hi mx:Bool)(x:AV)(bs:List AV):Option Delta:=
 match winV x with
 |some (id,off,len,cap)=>opWin id off len cap sz lo hi mx bs
 |none=>match frzV look 60 x with
 |some (.imm c len _,ids,cs)=>match lo,hi,mx with
  |false,true,true=>match x1 bs,x2 bs with
   |.int _ h,.int _ m=>match d.emp h.toNat with
    |true=>some {v:=.imm (c.take 0) 0 (some 0),ws:=frzW look ids,al:=[],cs:=cs++[.b (h==0),.b (m==0)]}
    |false=>match d.open3 with
     |true=>some {v:=.imm (c.take (mz h.toNat sz)) h.toNat (some m.toNat),ws:=frzW look ids,al:=[],cs:=cs++[.b (leb 0 h),.b (leb h m),.b (len' m.toNat len),.eqn c.size (mz len sz)]}
     |false=>some {v:=.imm c len (some len),ws:=frzW look ids,al:=[],cs:=cs++[.b (leb 0 h),.eqn h.toNat len,.b (leb 0 m),.eqn m.toNat len,.eqn c.size (mz len sz)]}
   |_,_=>none
  |true,false,false=>match x1 bs with
   |.int _ l=>some {v:=.imm (c.drop (mz l.toNat sz)) (len-l.toNat) none,ws:=frzW look ids,al:=[],cs:=cs++[.b (leb 0 l),.b (len' l.toNat len),.eqn c.size (mz len sz)]}
   |_=>none
  |false,true,false=>match x1 bs with
   |.int _ h=>some {v:=.imm (c.take (mz h.toNat sz)) h.toNat none,ws:=frzW look ids,al:=[],cs:=cs++[.b (leb 0 h),.b (len' h.toNat len),.eqn c.size (mz len sz)]}
   |_=>none
  |true,true,false=>match x1 bs,x2 bs with
   |.int _ l,.int _ h=>some {v:=.imm ((c.drop (mz l.toNat sz)).take (mz (h.toNat-l.toNat) sz)) (h.toNat-l.toNat) none,ws:=frzW look ids,al:=[],cs:=cs++[.b (leb 0 l),.b (leb l h),.b (len' h.toNat len),.eqn c.size (mz len sz)]}
   |_,_=>none
  |_,_,_=>none
 |some (.nils,ids,cs)=>match lo,hi,mx with
  |false,true,true=>match x1 bs,x2 bs with
   |.int _ h,.int _ m=>some {v:=.nils,ws:=frzW look ids,al:=[],cs:=cs++[.b (leb 0 h),.eqn h.toNat 0,.b (leb 0 m),.eqn m.toNat 0]}
   |_,_=>none
  |_,_,_=>none
 |_=>none
def opView (look:Nat→Option HO)(sz id n:Nat)(lo hi mx:Bool)(bs:List AV):Option Delta:=
 match look id with
 |some (.blk b)=>cond (b.mu&&Nat.beq b.sz sz) (match lo,hi,mx with
  |true,false,false=>match x1 bs with
   |.int _ l=>cond (ltn l.toNat n) (Delta.val (.vw id n sz l.toNat (n-l.toNat)) [.eqn b.n n,.b (leb 0 l),.b (ltn l.toNat n)]) (match b.cap with
    |some c=>Delta.val (.imm (b.c.take 0) 0 (some 0)) [.eqn b.n n,.b (leb 0 l),.eqn l.toNat n,.eqn c n]
    |none=>none)
   |_=>none
  |false,true,false=>match x1 bs with
   |.int _ h=>Delta.val (.vw id n sz 0 h.toNat) [.eqn b.n n,.b (leb 0 h),.b (len' h.toNat n)]
   |_=>none
  |_,_,_=>none) none
 |_=>none
def opViewT (look:Nat→Option HO)(sz id n:Nat)(lo hi mx:Bool)(bs:List AV):Option Delta:=
 match look id with
 |some (.blk b)=>cond (b.mu&&Nat.beq b.sz sz) (match lo,hi,mx with
  |true,false,false=>match x1 bs with
   |.int _ l=>Delta.val (.vw id n sz l.toNat (n-l.toNat)) [.eqn b.n n,.b (leb 0 l),.b (ltn l.toNat n)]
   |_=>none
  |_,_,_=>none) none
 |_=>none
def opKeep (look:Nat→Option HO)(id len:Nat)(lo hi mx:Bool)(bs:List AV):Option Delta:=
 match look id with
 |some (.blk b)=>match b.mu,b.cap with
  |true,none=>match lo,hi,mx with
   |false,true,true=>match x1 bs,x2 bs with
    |.int _ h,.int _ m=>cond (Nat.beq h.toNat len&&Nat.beq m.toNat len) (Delta.val (.fullc id len len) [.eqn b.n len,.b (leb 0 h),.eqn h.toNat len,.b (leb 0 m),.eqn m.toNat len]) none
    |_,_=>none
   |_,_,_=>none
  |_,_=>none
 |_=>none
def opView2 (look:Nat→Option HO)(sz id n s off len:Nat)(lo hi mx:Bool)(bs:List AV):Option Delta:=
 match look id with
 |some (.blk b)=>match lo,hi,mx with
  |false,true,false=>match x1 bs with
   |.int _ h=>Delta.val (.vw id n s off h.toNat) [.eqn b.n n,.b (leb 0 h),.b (len' h.toNat len)]
   |_=>none
  |true,false,false=>match x1 bs with
   |.int _ l=>cond (Nat.beq s sz&&Nat.beq b.sz sz) (cond (ltn l.toNat len) (Delta.val (.vw id n s (off+l.toNat) (len-l.toNat)) [.eqn b.n n,.b (leb 0 l),.b (ltn l.toNat len)]) (match b.cap with
    |some c=>Delta.val (.imm (b.c.take 0) 0 (some 0)) [.eqn b.n n,.b (leb 0 l),.eqn l.toNat len,.eqn c n,.eqn (off+len) n]
    |none=>none)) none
   |_=>none
  |_,_,_=>none
 |_=>none
def opSliceQ (look:Nat→Option HO)(sz:Nat)(lo hi mx:Bool)(id v d:Nat)(bs:List AV):Option Delta:=
 match look id with
 |some (.que _ l v')=>match lo,hi,mx with
  |true,false,false=>match x1 bs with
   |.int _ n=>cond (Nat.beq sz 1) (Delta.val (.qu id v (d+n.toNat)) [.eqn v' v,.b (leb 0 n),.b (len' (d+n.toNat) l.length)]) none
   |_=>none
  |_,_,_=>none
 |_=>none
def opSliceS (look:Nat→Option HO)(d:Dir)(sz:Nat)(lo hi mx:Bool)(x:AV)(bs:List AV):Option Delta:=
 match x with
 |.spare id=>match lo,hi,mx with
  |false,true,false=>match x1 bs with
   |.int _ h=>Delta.val (.full id 0) [.b (h==0)]
   |_=>none
  |_,_,_=>none
 |.nils=>match lo,hi,mx with
  |false,true,false=>match x1 bs with
   |.int _ h=>Delta.val .nils [.b (h==0)]
   |_=>none
  |_,_,_=>opSlice look d sz lo hi mx .nils bs
 |.full id len=>match d with
  |.wrap=>match look id with
   |some (.blk b)=>match b.cap with
    |none=>match lo,hi,mx with
     |false,true,true=>match x1 bs,x2 bs with
      |.int _ h,.int _ m=>Delta.val (.full id len) [.eqn b.n len,.b (leb 0 h),.eqn h.toNat len,.b (leb 0 m),.eqn m.toNat len]
      |_,_=>none
     |_,_,_=>opView look sz id len lo hi mx bs
    |some _=>opView look sz id len lo hi mx bs
   |_=>none
  |.tab _ _=>match opView look sz id len lo hi mx bs with
   |some D=>some D
   |none=>match opKeep look id len lo hi mx bs with
    |some D=>some D
    |none=>opSlice look d sz lo hi mx (.full id len) bs
  |.pk true=>match look id with
   |some (.blk b)=>match b.cap with
    |none=>match lo,hi,mx with
     |false,true,true=>match x1 bs,x2 bs with
      |.int _ h,.int _ m=>Delta.val (.fullc id len len) [.eqn b.n len,.b (leb 0 h),.eqn h.toNat len,.b (leb 0 m),.eqn m.toNat len]
      |_,_=>none
     |_,_,_=>none
    |some _=>none
   |_=>none
  |.pk false=>match opViewT look sz id len lo hi mx bs with
   |some D=>some D
   |none=>opSlice look d sz lo hi mx (.full id len) bs
  |_=>opSlice look d sz lo hi mx (.full id len) bs
 |.vw id n s off len=>match opView2 look sz id n s off len lo hi mx bs with
  |some D=>some D
  |none=>opSlice look d sz lo hi mx (.vw id n s off len) bs
 |.qu id v d=>opSliceQ look sz lo hi mx id v d bs
 |x=>opSlice look d sz lo hi mx x bs
def opSlices (lo hi:Bool)(x:AV)(bs:List AV):Option Delta:=
 match x with
 |.str s=>match lo,hi with
  |true,false=>match x1 bs with
   |.int _ l=>Delta.val (.str (s.drop l.toNat)) [.b (leb 0 l),.b (len' l.toNat s.length)]
   |_=>none
  |false,true=>match x1 bs with
   |.int _ h=>Delta.val (.str (s.take h.toNat)) [.b (leb 0 h),.b (len' h.toNat s.length)]
   |_=>none
  |true,true=>match x1 bs,x2 bs with
   |.int _ l,.int _ h=>Delta.val (.str ((s.drop l.toNat).take (h.toNat-l.toNat))) [.b (leb 0 l),.b (leb l h),.b (len' h.toNat s.length)]
   |_,_=>none
  |_,_=>none
 |_=>none
def opSlicea (look:Nat→Option HO)(n sz:Nat)(lo hi mx:Bool)(x:AV)(bs:List AV):Option Delta:=
 match x with
 |.ptr id off=>match look id with
  |some (.blk b)=>cond b.bx (opWin id off n n sz lo hi mx bs) none
  |_=>none
 |.iptr c=>match lo,hi,mx with
  |false,false,false=>Delta.val (.imm c n (some n))
  |_,_,_=>none
 |_=>none
def opLens (x:AV):Option Delta:=
 match x with
 |.str s=>Delta.val (.int .i64 s.length)
 |_=>none
def opLen (look:Nat→Option HO)(x:AV):Option Delta:=
 match x with
 |.nils=>Delta.val (.int .i64 0)
 |.imm _ len _=>Delta.val (.int .i64 len)
 |.sl _ _ len _=>Delta.val (.int .i64 len)
 |.vw id n _ _ len=>match look id with
  |some (.blk b)=>Delta.val (.int .i64 len) [.eqn b.n n]
  |_=>none
 |.full id len=>match look id with
  |some (.blk b)=>Delta.val (.int .i64 len) [.eqn b.n len]
  |_=>none
 |.qu id v d=>match look id with
  |some (.que _ l v')=>Delta.val (.int .i64 (l.length-d:Nat)) [.eqn v' v]
  |_=>none
 |_=>none
def opCap (look:Nat→Option HO)(x:AV):Option Delta:=
 match x with
 |.fullc _ _ n=>Delta.val (.int .i64 n)
 |.nils=>Delta.val (.int .i64 0)
 |.imm _ _ (some n)=>Delta.val (.int .i64 n)
 |.sl _ _ _ n=>Delta.val (.int .i64 n)
 |.full id len=>match look id with
  |some (.blk b)=>match b.cap with
   |some n=>Delta.val (.int .i64 n) [.eqn b.n len]
   |none=>none
  |_=>none
 |_=>none
def apCap (d:Dir)(cap:Option Nat):Option Nat:=
 match d with
 |.pk true=>cap
 |_=>none
def apCs (d:Dir)(cap:Option Nat)(n:Nat):List Cd:=
 match d with
 |.pk true=>match cap with
  |some c=>[.b (len' n c)]
  |none=>[]
 |_=>[]
def opAppend (site:Nat)(look:Nat→Option HO)(d:Dir)(sz by_ ty:Nat)(x y:AV):Option Delta:=
 match srcOf look sz y with
 |some (yc,m,cs)=>match frzC look 60 yc with
  |some (yc',ids,cs')=>match x with
   |.full id len=>match look id with
    |some (.blk b)=>cond (b.mu&&(!b.bx&&(!memN id ids&&Nat.beq b.sz sz))) (match b.c.app yc' with
     |some c=>some {v:=.full id (len+m),ws:=frzW look ids++[(id,.blk {b with c,n:=len+m,cap:=apCap d b.cap})],al:=[],cs:=.eqn b.n len:: .b (len' ((len+m)*by_) roomMax)::(apCs d b.cap (len+m)++(cs++cs'))}
     |none=>none) none
    |_=>none
   |.vw id n s 0 len=>match look id with
    |some (.blk b)=>cond (b.mu&&(!b.bx&&(!memN id ids&&(Nat.beq b.sz sz&&Nat.beq s sz)))) (match(b.c.take (mz len sz)).app yc' with
     |some c1=>match c1.app (b.c.drop (mz (len+m) sz))with
      |some c=>some {v:=.vw id (max n (len+m)) sz 0 (len+m),ws:=frzW look ids++[(id,.blk {b with c,n:=max n (len+m),cap:=none})],al:=[],cs:=.eqn b.n n:: .b (len' ((len+m)*by_) roomMax)::(cs++cs')}
      |none=>none
     |none=>none) none
    |_=>none
   |.nils=>match(emptyOf ty).app yc' with
    |some c=>some {v:=.full site m,ws:=frzW look ids++[(site,.blk {c,sz,n:=m,cap:=none,nil:=some true,mu:=true,bx:=false})],al:=[site],cs:=.b (len' (m*by_) roomMax)::(cs++cs')}
    |none=>none
   |.imm c len (some cap)=>cond d.same (some {v:=.imm c len (some cap),ws:=frzW look ids,al:=[],cs:=.eqn m 0::(cs++cs')}) (match c.app yc' with
    |some c'=>match d.gen len with
     |true=>some {v:=.full site (len+m),ws:=frzW look ids++[(site,.blk {c:=c',sz,n:=len+m,cap:=none,nil:=some false,mu:=true,bx:=false})],al:=[site],cs:=.eqn cap len:: .eqn c.size (mz len sz):: .b (len' ((len+m)*by_) roomMax):: .b (ltn 0 m)::(cs++cs')}
     |false=>some {v:=.full site m,ws:=frzW look ids++[(site,.blk {c:=c',sz,n:=m,cap:=none,nil:=none,mu:=true,bx:=false})],al:=[site],cs:=.eqn len 0:: .eqn cap 0:: .eqn c.size 0:: .b (len' (m*by_) roomMax)::(cs++cs')}
    |none=>none)
   |_=>none
  |none=>none
 |none=>none
def opAppendQ (look:Nat→Option HO)(sz by_:Nat)(id v d:Nat)(y:AV):Option Delta:=
 match srcOf look sz y,look id with
 |some (.ints k2 l2,m,cs),some (.que k l v')=>cond (beqK k k2&&Nat.beq sz 1) (some {v:=.qu id (v+1) 0,ws:=[(id,.que k (l.drop d++l2) (v+1))],al:=[],cs:=.eqn v' v:: .b (len' ((l.length-d+m)*by_) roomMax)::cs}) none
 |_,_=>none
def opAppendT (site:Nat)(look:Nat→Option HO)(d:Dir)(sz by_ ty:Nat)(x y:AV):Option Delta:=
 match x with
 |.qu id v d=>opAppendQ look sz by_ id v d y
 |x=>opAppend site look d sz by_ ty x y
def opGrowz (site sz by_ ty:Nat)(x n:AV):Option Delta:=
 match x,n with
 |.nils,.int _ n=>some {v:=.spare site,ws:=[(site,.blk {c:=emptyOf ty,sz,n:=0,cap:=none,nil:=some false,mu:=true,bx:=false})],al:=[site],cs:=[.b (ltb 0 n),.b (leb (n*by_) roomMax)]}
 |_,_=>none
def opBuild (z:List AV)(ps:List (Nat×Nat))(vs:List AV):Option Delta:=
 match fillL z ps vs with
 |some l=>Delta.val (.agg l)
 |none=>none
def allFill:List AV→Bool
 |[]=>true
 |v::r=>allCell v.cs&&allFill r
def allLit:List AV→Bool
 |[]=>true
 |.int _ _::r=>allLit r
 |.bool _::r=>allLit r
 |.str _::r=>allLit r
 |_::_=>false
def contOfS (ty:Nat)(l:List AV):Option Cont:=
 match ty with
 |0=>cond (allLit l) (some (.vals l)) (some (.cells l))
 |ty=>contOf ty l
def opBuildS (site sz len ty:Nat)(z:List AV)(ps:List (Nat×Nat))(vs:List AV):Option Delta:=
 cond (allFill vs) (match fillL (repL z len) ps vs with
 |some l=>match contOfS ty l with
  |some c=>some {v:=.full site len,ws:=[(site,.blk {c,sz,n:=len,cap:=some len,nil:=some false,mu:=true,bx:=false})],al:=[site],cs:=[]}
  |none=>none
 |none=>none) none
def queC (site sz:Nat)(c:Cont):Option Delta:=
 match c with
 |.ints k l=>cond (Nat.beq sz 1) (some {v:=.qu site 0 0,ws:=[(site,.que k l 0)],al:=[site],cs:=[]}) none
 |_=>none
def queD (d:Dir)(site:Nat)(D:Delta):Option Delta:=
 match d with
 |.pk true=>match D.ws with
  |[(_,.blk b)]=>queC site b.sz b.c
  |_=>none
 |_=>some D
def opBuildQ (site:Nat)(d:Dir)(sz len ty:Nat)(z:List AV)(ps:List (Nat×Nat))(vs:List AV):Option Delta:=
 match opBuildS site sz len ty z ps vs with
 |some D=>queD d site D
 |none=>none
def zeroC (z:Cont)(n:Nat):Option Cont:=
 match z with
 |.ints k [x]=>some (.ints k (List.replicate n x))
 |.bools [x]=>some (.bools (List.replicate n x))
 |.strs [x]=>some (.strs (List.replicate n x))
 |.cells [x]=>some (.cells (List.replicate n x))
 |_=>none
def allZero:List AV→Bool
 |[]=>true
 |.int _ _::r=>allZero r
 |.bool _::r=>allZero r
 |.str _::r=>allZero r
 |.nils::r=>allZero r
 |_::_=>false
def zeroB (d:Dir)(z:List AV):Bool:=
 match d with
 |.tab _ _=>allLit z
 |_=>allZero z
def zeroW (d:Dir)(z:List AV)(n:Nat):Cont:=cond (zeroB d z) (.vals (repL z n)) (.cells (repL z n))
def opMks (site:Nat)(d:Dir)(sz by_ ty:Nat)(z:List AV)(l c:AV):Option Delta:=
 match l,c with
 |.int _ l,.int _ c=>match(match sz with
   |1=>match contOf ty z with
    |some zc=>zeroC zc (mz l.toNat 1)
    |none=>none
   |_=>cond (allCell z) (some (zeroW d z l.toNat)) none)with
  |some zs=>some {v:=.full site l.toNat,ws:=[(site,.blk {c:=zs,sz,n:=l.toNat,cap:=some c.toNat,nil:=some false,mu:=true,bx:=false})],al:=[site],cs:=[.b (leb 0 l),.b (leb l c),.b (leb (c*by_) roomMax)]}
  |none=>none
 |_,_=>none
def opCopy (look:Nat→Option HO)(sz:Nat)(x y:AV):Option Delta:=
 match srcOf look sz y with
 |some (yc,m,cs)=>match frzC look 60 yc with
  |some (yc',ids,cs')=>match x with
   |.full id len=>match look id with
    |some (.blk b)=>cond (b.mu&&(!b.bx&&(!memN id ids&&Nat.beq b.sz sz))) (match(b.c.take 0).app yc' with
     |some c=>some {v:=.int .i64 len,ws:=frzW look ids++[(id,.blk {b with c})],al:=[],cs:=.eqn b.n len:: .eqn m len::(cs++cs')}
     |none=>none) none
    |_=>none
   |_=>none
  |none=>none
 |none=>none
def dstS:AV→Option (Nat×Nat×Nat×Option Nat)
 |.sl id off n _=>some (id,off,n,none)
 |.full id n=>cond (Nat.blt 0 n) (some (id,0,n,some n)) none
 |.vw id n sz off len=>cond (Nat.blt 0 n&&Nat.beq sz 1) (some (id,off,len,some n)) none
 |_=>none
def putA (l1 l2:List Int)(off m:Nat):List Int:=match off with
 |0=>l2++l1.drop m
 |off+1=>l1.take (off+1)++(l2++l1.drop (off+1+m))
def opCopyS (look:Nat→Option HO)(sz:Nat)(x y:AV):Option Delta:=
 match dstS x with
 |some (id,off,len,wn)=>match srcOf look sz y,look id with
  |some (c2,m,cs),some (.blk b)=>match c2,b.c with
   |.ints k2 l2,.ints k1 l1=>cond (b.mu&&(Nat.beq b.sz 1&&(Nat.beq sz 1&&beqK k1 k2))) (some {v:=.int .i64 m,ws:=[(id,.blk {b with c:=.ints k1 (putA l1 l2 off m)})],al:=[],cs:=.b (Nat.ble m len):: .b (Nat.ble (off+len) l1.length):: .eqn b.n (wn.getD b.n)::cs}) none
   |_,_=>none
  |_,_=>none
 |none=>none
def opCopy2 (look:Nat→Option HO)(sz:Nat)(x y:AV):Option Delta:=
 match opCopyS look sz x y with
 |some D=>some D
 |none=>opCopy look sz x y
def opCopyL (look:Nat→Option HO)(sz:Nat)(x y:AV):Option Delta:=
 match dstS x with
 |some (id,off,len,wn)=>match srcOf look sz y,look id with
  |some (c2,m,cs),some (.blk b)=>match c2,b.c with
   |.ints k2 l2,.ints k1 l1=>cond (b.mu&&(Nat.beq b.sz 1&&(Nat.beq sz 1&&beqK k1 k2))) (some {v:=.int .i64 len,ws:=[(id,.blk {b with c:=.ints k1 (putA l1 (l2.take len) off len)})],al:=[],cs:=.b (Nat.ble len m):: .b (Nat.ble (off+len) l1.length):: .eqn b.n (wn.getD b.n)::cs}) none
   |_,_=>none
  |_,_=>none
 |none=>none
def opCopy3 (look:Nat→Option HO)(d:Dir)(sz:Nat)(x y:AV):Option Delta:=
 match d with
 |.pk false=>opCopyL look sz x y
 |.wrap=>opCopy look sz x y
 |_=>cond (Nat.beq sz 1) (opCopy2 look sz x y) (opCopy look sz x y)
def opExt (i:Nat)(x:AV):Option Delta:=
 match x with
 |.tup l=>Delta.val (l.getD i .undef) [.b (ltn i l.length)]
 |_=>none
def opCallD (site:Nat)(look:Nat→Option HO)(tb:Nat→List (Nat×HO)→AV→List AV→Option Delta)(cv:AV)(vs:List AV):Option Delta:=
 let r:=refsV cv++refsL vs
 let h:=readF look (reachW look 1000000 r [])
 cond (allIn r (keys h)&&closedH (keys h) h) (match tb site h cv vs with
 |some D=>cond (allIn (keys D.ws) (keys h++D.al)&&noneIn D.al (keys h)) (some {D with cs:=.callD cv vs h D.v D.ws D.al::D.cs}) none
 |none=>none) none
def opCall (site:Nat)(look:Nat→Option HO)(d:Dir)(f:Nat)(vs:List AV):Option Delta:=
 match d with
 |.ctr ct=>match frzL look 60 vs with
  |some (args,ids,cs)=>match ct f args with
   |some (v,hs)=>some {v:=shiftV (64*site) v,ws:=frzW look ids++shiftH (64*site) 0 hs,al:=idsH (64*site) 0 hs,cs:=cs++[.call f args v hs]}
   |none=>none
  |none=>none
 |.ret v hs=>match frzL look 60 vs with
  |some (args,ids,cs)=>some {v:=shiftV (64*site) v,ws:=frzW look ids++shiftH (64*site) 0 hs,al:=idsH (64*site) 0 hs,cs:=cs++[.call f args v hs]}
  |none=>none
 |.tab _ tb=>opCallD site look tb (.fn f [] []) vs
 |_=>none
def opCallv (site:Nat)(look:Nat→Option HO)(d:Dir)(x:AV)(vs:List AV):Option Delta:=
 match x with
 |.fn f a c=>opCall site look d f (a++vs++c)
 |.yld id=>match d with
  |.tab _ tb=>opCallD site look tb (.yld id) vs
  |_=>none
 |_=>none
def opInv (site:Nat)(look:Nat→Option HO)(d:Dir)(tab:List (Nat×(Nat×Option (Option Nat))))(x:AV)(vs:List AV):Option Delta:=
 match x with
 |.iface t v=>match aget tab t with
  |some (f,none)=>opCall site look d f (v::vs)
  |some (f,some agg)=>match opLoad look .plain agg v with
   |some D0=>match opCall site look d f (D0.v::vs)with
    |some D=>some {D with cs:=D0.cs++D.cs}
    |none=>none
   |none=>none
  |none=>none
 |_=>none
def opTas (t:Nat)(x:AV):Option Delta:=
 match x with
 |.iface t' v=>cond (Nat.beq t' t) (Delta.val v) none
 |_=>none
def opNilck (look:Nat→Option HO)(x:AV):Option Delta:=
 match x with
 |.fn f a c=>Delta.val (.fn f a c)
 |.yld i=>Delta.val (.yld i)
 |.ptr i o=>Delta.val (.ptr i o)
 |.ep i n o=>match look i with
  |some (.blk b)=>Delta.val (.ep i n o) [.eqn b.n n]
  |_=>none
 |.qe i v j=>match look i with
  |some (.que _ _ v')=>Delta.val (.qe i v j) [.eqn v' v]
  |_=>none
 |.iptr c=>Delta.val (.iptr c)
 |_=>none
def opRng (site:Nat)(x:AV):Option Delta:=
 match x with
 |.str s=>some {v:=.ptr site 0,ws:=[(site,.iter s 0)],al:=[site],cs:=[]}
 |_=>none

def bytesI (l:List Int):List UInt8:=l.map fun n=>UInt8.ofNat n.toNat
def opRstr (x:AV):Option Delta:=
 match x with
 |.int _ n=>Delta.val (.str (Utf8.encode n).data.toList)
 |_=>none
def opSbyt (_:Nat)(_:AV):Option Delta:=none
def opClear (look:Nat→Option HO)(sz:Nat)(z:List AV)(x:AV):Option Delta:=
 match x with
 |.vw id n s off len=>match look id with
  |some (.blk b)=>cond (b.mu&&(!b.bx&&(Nat.beq b.sz sz&&(Nat.beq s sz&&(Nat.beq z.length sz&&allLit z))))) (match b.c with
   |.vals l=>some {v:=.tup [],ws:=[(id,.blk {b with c:=.vals (l.take (mz off sz)++repL z len++l.drop (mz (off+len) sz))})],al:=[],cs:=[.eqn b.n n,.b (ltn 0 len)]}
   |_=>none) none
  |_=>none
 |_=>none
def opBstr (look:Nat→Option HO)(x:AV):Option Delta:=
 match x with
 |.nils=>Delta.val (.str [])
 |x=>match srcOf look 1 x with
  |some (.ints k l,_,cs)=>cond (beqK k .u8) (Delta.val (.str (bytesI l)) cs) none
  |_=>none
def nxtV (s:List UInt8)(pos:Nat):AV:=.tup [.bool true,.int .i64 pos,.int .i32 (Utf8.decode ⟨s.toArray⟩ pos).1]
def nxtP (s:List UInt8)(pos:Nat):Nat:=pos+(Utf8.decode ⟨s.toArray⟩ pos).2
def opNxt (look:Nat→Option HO)(d:Dir)(x:AV):Option Delta:=
 match x with
 |.ptr id 0=>match look id with
  |some (.iter s pos)=>match d with
   |.tab _ _=>cond (ltn pos s.length) (some {v:=nxtV s pos,ws:=[(id,.iter s (nxtP s pos))],al:=[],cs:=[]}) (some {v:=.tup [.bool false],ws:=[],al:=[],cs:=[]})
   |.wrap=>some {v:=.tup [.bool false],ws:=[],al:=[],cs:=[.b (!ltn pos s.length)]}
   |_=>some {v:=nxtV s pos,ws:=[(id,.iter s (nxtP s pos))],al:=[],cs:=[.b (ltn pos s.length)]}
  |_=>none
 |_=>none

/-! ### Maps -/

def cellI:Option IntKind→Int→AV
 |some k,n=>.int k n
 |none,n=>.bool (n !=0)
def cellsI (l:List Int):Nat→List (Option IntKind)→List AV
 |_,[]=>[]
 |i,k::r=>cellI k (l.getD i 0)::cellsI l (i+1) r
def MV.av (m:MV)(l:List Int):AV:=
 match m.agg with
 |true=>.agg (cellsI l 0 m.ks)
 |false=>match m.ks with
  |[k]=>cellI k (l.getD 0 0)
  |_=>.undef
def numK:Option IntKind→AV→Option Int
 |some k,.int k' n=>cond (beqK k k') (some n) none
 |none,.bool b=>some (cond b 1 0)
 |_,_=>none
def numsK:List (Option IntKind)→List AV→Option (List Int)
 |[],[]=>some []
 |k::r,v::l=>match numK k v,numsK r l with
  |some n,some ns=>some (n::ns)
  |_,_=>none
 |_,_=>none
def MV.rd (m:MV)(v:AV):Option (List Int):=
 match m.agg with
 |true=>match v with
  |.agg l=>numsK m.ks l
  |_=>none
 |false=>match m.ks with
  |[k]=>match numK k v with
   |some n=>some [n]
   |none=>none
  |_=>none
def beqMV (a b:MV):Bool:=a.agg==b.agg&&decide (a.ks=b.ks)
def mget:List (List Int×List Int×Nat)→List Int→Option (List Int)
 |[],_=>none
 |e::r,k=>cond (decide (k=e.1)) (some e.2.1) (mget r k)
def mhas:List (List Int×List Int×Nat)→List Int→Bool
 |[],_=>false
 |e::r,k=>cond (decide (k=e.1)) true (mhas r k)
def mput:List (List Int×List Int×Nat)→List Int→List Int→Nat→List (List Int×List Int×Nat)
 |[],k,v,c=>[(k,v,c)]
 |e::r,k,v,c=>cond (decide (k=e.1)) ((k,v,e.2.2)::r) (e::mput r k v c)
def mdel:List (List Int×List Int×Nat)→List Int→List (List Int×List Int×Nat)
 |[],_=>[]
 |e::r,k=>cond (decide (k=e.1)) r (e::mdel r k)
def mck (es:List (List Int×List Int×Nat))(k:List Int)(c:Nat):Nat:=cond (mhas es k) c (c+1)
def hintOk:Nat→List AV→Bool
 |0,_=>true
 |_,.int _ _::_=>true
 |_,_=>false
def opMkmap (site:Nat)(kk vk:MV)(n:Nat)(vs:List AV):Option Delta:=
 cond (hintOk n vs) (some {v:=.mp site,ws:=[(site,.blk {c:=.maps kk vk [] 0,sz:=1,n:=0,cap:=none,nil:=some false,mu:=true,bx:=true})],al:=[site],cs:=[]}) none
def mapOf (look:Nat→Option HO)(kk vk:MV)(m:AV):Option (Nat×Blk×List (List Int×List Int×Nat)×Nat):=
 match m with
 |.mp id=>match look id with
  |some (.blk b)=>match b.c with
   |.maps kk' vk' es ck=>cond (beqMV kk kk'&&beqMV vk vk') (some (id,b,es,ck)) none
   |_=>none
  |_=>none
 |_=>none
def opMlook (look:Nat→Option HO)(kk vk:MV)(ok:Bool)(m k:AV):Option Delta:=
 match mapOf look kk vk m,kk.rd k with
 |some (_,_,es,_),some kl=>match ok with
  |true=>Delta.val (.tup [vk.av ((mget es kl).getD []),.bool (mhas es kl)])
  |false=>Delta.val (vk.av ((mget es kl).getD []))
 |_,_=>none
def opMput (look:Nat→Option HO)(kk vk:MV)(m k v:AV):Option Delta:=
 match mapOf look kk vk m,kk.rd k,vk.rd v with
 |some (id,b,es,ck),some kl,some vl=>cond b.mu (some {v:=.undef,ws:=[(id,.blk {b with c:=.maps kk vk (mput es kl vl ck) (mck es kl ck)})],al:=[],cs:=[]}) none
 |_,_,_=>none
def opMdel (look:Nat→Option HO)(kk vk:MV)(m k:AV):Option Delta:=
 match mapOf look kk vk m,kk.rd k with
 |some (id,b,es,ck),some kl=>cond b.mu (some {v:=.tup [],ws:=[(id,.blk {b with c:=.maps kk vk (mdel es kl) ck})],al:=[],cs:=[]}) none
 |_,_=>none
def opMlen (look:Nat→Option HO)(m:AV):Option Delta:=
 match m with
 |.mp id=>match look id with
  |some (.blk b)=>match b.c with
   |.maps _ _ es _=>Delta.val (.int .i64 es.length)
   |_=>none
  |_=>none
 |_=>none

def mborn:List (List Int×List Int×Nat)→List Int→Nat→Nat
 |[],_,c=>c
 |e::r,k,c=>cond (decide (k=e.1)) e.2.2 (mborn r k c)
def mset:List (List Int×List Int×Nat)→Int→List Int→List (List Int×List Int×Nat)
 |[],_,_=>[]
 |e::r,s,v=>cond (decide ((e.2.2:Int)=s)) ((e.1,v,e.2.2)::r) (e::mset r s v)
def mst? (es:List (List Int×List Int×Nat))(s:Int):Bool:=es.any fun e=>decide ((e.2.2:Int)=s)
def opMent (look:Nat→Option HO)(kk vk:MV)(m k:AV):Option Delta:=
 match mapOf look kk vk m,kk.rd k with
 |some (id,b,es,ck),some kl=>cond b.mu (some {v:=.tup [vk.av ((mget es kl).getD []),.int .i64 (mborn es kl ck)],ws:=[(id,.blk {b with c:=.maps kk vk (mput es kl ((mget es kl).getD []) ck) (mck es kl ck)})],al:=[],cs:=[]}) none
 |_,_=>none
def opMst (look:Nat→Option HO)(kk vk:MV)(m s v:AV):Option Delta:=
 match mapOf look kk vk m,s,vk.rd v with
 |some (id,b,es,ck),.int .i64 n,some vl=>cond b.mu (some {v:=.undef,ws:=[(id,.blk {b with c:=.maps kk vk (mset es n vl) ck})],al:=[],cs:=[.b (mst? es n)]}) none
 |_,_,_=>none
def entL (kk vk:MV)(es:List (List Int×List Int×Nat))(seen:List Nat):List AV:=(es.filter fun e=>decide (seen.getLast? =some e.2.2)).map fun e=>.tup [kk.av e.1,vk.av e.2.1]
def opEnt (look:Nat→Option HO)(d:Dir)(x:AV):Option Delta:=
 match x with
 |.ptr id 0=>match look id with
  |some (.mit mid ck seen)=>match look mid with
   |some (.blk b)=>match b.c,d with
    |.maps kk vk es ck',.val [v]=>Delta.val v [.eqn ck' ck,.get (entL kk vk es seen) 0 v]
    |_,_=>none
   |_=>none
  |_=>none
 |_=>none
def opRngm (site:Nat)(look:Nat→Option HO)(x:AV):Option Delta:=
 match x with
 |.mp id=>match look id with
  |some (.blk b)=>match b.c with
   |.maps _ _ _ ck=>some {v:=.ptr site 0,ws:=[(site,.mit id ck [])],al:=[site],cs:=[]}
   |_=>none
  |_=>none
 |_=>none

def unc:AV→AV
 |.fullc id len _=>.full id len
 |v=>v

def execD (site:Nat)(look:Nat→Option HO)(op:XOp)(d:Dir)(vs:List AV):Option Delta:=
 match op with
 |.mv _=>Delta.val (x1 vs)
 |.same _=>Delta.val (x1 vs)
 |.pick _ _ _=>opPickD d (x1 vs) (x2 vs) (x3 vs)
 |.new z n sz=>opNew site z n sz
 |.box _=>cond (allCell (x1 vs).cs) (opNew site (.cells (x1 vs).cs) 1 (x1 vs).cs.length) none
 |.load agg _=>opLoad look d agg (x1 vs)
 |.store sz _ _=>opStoreS look sz (x1 vs) (x2 vs)
 |.bin op _ _=>opBin d op (x1 vs) (x2 vs)
 |.eqb neq _ _=>opEqb neq (x1 vs) (x2 vs)
 |.eqa neq n ls _ _=>opEqa neq n ls (x1 vs) (x2 vs)
 |.isnil neq kd _=>opIsnil look neq kd (unc (x1 vs))
 |.un op _=>opUn d op (x1 vs)
 |.conv k _=>opConv d k (x1 vs)
 |.fieldA f _=>opFieldA look f (x1 vs)
 |.field off agg _=>opField off agg (x1 vs)
 |.idxA arr sz _ _=>opIdxA look arr sz (unc (x1 vs)) (x2 vs)
 |.idx n sz agg _ _=>opIdxD d n sz agg (x1 vs) (x2 vs)
 |.idxs _ _=>opIdxs (x1 vs) (x2 vs)
 |.slice sz _ lo hi mx=>opSliceS look d sz lo.isSome hi.isSome mx.isSome (unc (x1 vs)) (vs.drop 1)
 |.slices _ lo hi=>opSlices lo.isSome hi.isSome (x1 vs) (vs.drop 1)
 |.slicea n sz _ lo hi mx=>opSlicea look n sz lo.isSome hi.isSome mx.isSome (x1 vs) (vs.drop 1)
 |.lens _=>opLens (x1 vs)
 |.len _=>opLen look (unc (x1 vs))
 |.lena n _=>Delta.val (.int .i64 n)
 |.cap _=>opCap look (x1 vs)
 |.append sz by_ ty _ _=>opAppendT site look d sz by_ ty (unc (x1 vs)) (unc (x2 vs))
 |.copy sz _ _=>opCopy3 look d sz (unc (x1 vs)) (unc (x2 vs))
 |.build z ps=>opBuild z (ps.map fun p=>(p.1,p.2.1)) vs
 |.buildS sz len ty z ps=>opBuildQ site d sz len ty z (ps.map fun p=>(p.1,p.2.1)) vs
 |.mks sz by_ ty z _ _=>opMks site d sz by_ ty z (x1 vs) (x2 vs)
 |.mkf f a _=>Delta.val (.fn f (vs.take a.length) (vs.drop a.length))
 |.ext _ i=>opExt i (x1 vs)
 |.call f _=>opCall site look d f vs
 |.callv _ _=>opCallv site look d (x1 vs) (vs.drop 1)
 |.mm max _=>match mmF max vs with
  |some v=>Delta.val v
  |none=>none
 |.nilck _=>opNilck look (x1 vs)
 |.mki t _=>Delta.val (.iface t (x1 vs))
 |.rng _=>opRng site (x1 vs)
 |.nxt _=>opNxt look d (x1 vs)
 |.bstr _=>opBstr look (x1 vs)
 |.rstr _=>opRstr (x1 vs)
 |.growz sz by_ ty _ _=>opGrowz site sz by_ ty (x1 vs) (x2 vs)
 |.mkmap kk vk r=>opMkmap site kk vk r.length vs
 |.mlook kk vk ok _ _=>opMlook look kk vk ok (x1 vs) (x2 vs)
 |.mput kk vk _ _ _=>opMput look kk vk (x1 vs) (x2 vs) (x3 vs)
 |.mdel kk vk _ _=>opMdel look kk vk (x1 vs) (x2 vs)
 |.mlen _=>opMlen look (x1 vs)
 |.sbyt _=>opSbyt site (x1 vs)
 |.clear sz z _=>opClear look sz z (x1 vs)
 |.rngm _=>opRngm site look (x1 vs)
 |.ent _=>opEnt look d (x1 vs)
 |.ment kk vk _ _=>opMent look kk vk (x1 vs) (x2 vs)
 |.mst kk vk _ _ _=>opMst look kk vk (x1 vs) (x2 vs) (x3 vs)
 |.nxtm _=>none
 |.inv tab _ _=>opInv site look d tab (x1 vs) (vs.drop 1)
 |.tas t _=>opTas t (x1 vs)
 |.bad=>none

end Go.Ab

/-
 What an abstract value, an abstract state says of the model's values, memory, activation.
-/
set_option linter.unusedVariables false
namespace Go.Ab
open Go

mutual
inductive RelI (w:World)(F:Nat→Prop):AV→Value→Prop where
 |undef (x:Value):RelI w F .undef x
 |bool (b:Bool):RelI w F (.bool b) (.bool b)
 |int (k:IntKind) (n:Int):RelI w F (.int k n) (.int k n)
 |str (l:List UInt8) (s:ByteArray) (h:s.data.toList=l):RelI w F (.str l) (.string s)
 |nilp:RelI w F .nilp (.pointer none)
 |nils:RelI w F .nils (.slice none 0 0)
 |nilf:RelI w F .nilf .nilFunc
 |nili:RelI w F .nili .nilIface
 |nn (a:Addr) (l c:Nat):RelI w F .nn (.slice (some a) l c)
 |iptr (c:Cont) (b o:Nat) (xs:Nat→Value) (hF:F b)
   (hc:∀i,i<c.size→w.cell? ⟨b,o+i,none⟩=some (xs i)) (hr:∀i,i<c.size→RelI w F (c.getV i) (xs i)) (ho:∀i,i<c.size→(xs i).oneCell'=true):
   RelI w F (.iptr c) (.pointer (some ⟨b,o,none⟩))
 |imm (c:Cont) (len:Nat) (cap:Option Nat) (b o cap':Nat) (xs:Nat→Value) (hF:F b)
   (hc:∀i,i<c.size→w.cell? ⟨b,o+i,none⟩=some (xs i)) (hr:∀i,i<c.size→RelI w F (c.getV i) (xs i)) (ho:∀i,i<c.size→(xs i).oneCell'=true)
   (hl:len≤cap') (hcap:∀n,cap=some n→cap'=n):
   RelI w F (.imm c len cap) (.slice (some ⟨b,o,none⟩) len cap')
 |imm0 (c:Cont) (cap:Option Nat) (x:Option Addr) (hc:c.size=0) (hcap:∀n,cap=some n→n=0):
   RelI w F (.imm c 0 cap) (.slice x 0 0)
 |fn (f:Nat) (l1 l2:List AV) (x1 x2:Array Value) (h1:RelIs w F l1 x1.toList) (h2:RelIs w F l2 x2.toList):
   RelI w F (.fn f l1 l2) (.func (.func f) x1 x2)
 |agg (l:List AV) (x:Array Value) (h:RelIs w F l x.toList):RelI w F (.agg l) (.agg x)
 |tup (l:List AV) (x:Array Value) (h:RelIs w F l x.toList):RelI w F (.tup l) (.tuple x)
 |may (b:Bool) (v:AV) (x:Value) (h:b=true→RelI w F v x) (hn:b=false→x=undef):RelI w F (.may b v) x
 |iface (t:Nat) (v:AV) (x:Value) (h:RelI w F v x):RelI w F (.iface t v) (.iface t x)
inductive RelIs (w:World)(F:Nat→Prop):List AV→List Value→Prop where
 |nil:RelIs w F [] []
 |cons (v:AV) (l:List AV) (x:Value) (xs:List Value) (h:RelI w F v x) (hs:RelIs w F l xs):RelIs w F (v::l) (x::xs)
end

def FullOk (w:World)(ρ:Nat→Option Nat)(id len:Nat)(k:Blk)(x:Value):Prop:=
 (len=0∧k.nil≠some false∧(∀n,k.cap=some n→n=0)∧x=.slice none 0 0)∨
 (len=0∧k.nil≠some true∧(∀n,k.cap=some n→n=0)∧∃a,x=.slice (some a) 0 0)∨
 ((k.nil=some true→0<len)∧∃b cap cs ty fz,ρ id=some b∧w.heap[b]? =some (.cells cs ty fz)∧x=.slice (some ⟨b,0,none⟩) len cap∧len≤cap∧cap*k.sz≤cs.size∧(∀n,k.cap=some n→cap=n)∧cap≤capMax)

def QueOk (w:World)(ρ:Nat→Option Nat)(id:Nat)(k:IntKind)(l:List Int)(d:Nat)(x:Value):Prop:=
 ∃b o c cs ty fz,ρ id=some b∧w.heap[b]? =some (.cells cs ty fz)∧(∀q,¬ (fz.1≤q∧q<fz.2))∧d≤l.length∧x=.slice (some ⟨b,o,none⟩) (l.length-d) c∧l.length-d≤c∧o+c≤cs.size∧
  (∀i,d+i<l.length→cs[o+i]? =some (.int k (l.getD (d+i) 0)))∧c≤capMax
def QeOk (w:World)(ρ:Nat→Option Nat)(id:Nat)(k:IntKind)(l:List Int)(i:Nat)(x:Value):Prop:=
 ∃b o cs ty fz,ρ id=some b∧w.heap[b]? =some (.cells cs ty fz)∧x=.pointer (some ⟨b,o,none⟩)∧i<l.length∧cs[o]? =some (.int k (l.getD i 0))
theorem QeOk.mono {w w':World}{ρ ρ':Nat→Option Nat}{id id':Nat}{k:IntKind}{l:List Int}{i:Nat}{x:Value}(hρ:ρ' id'=ρ id)(hw:∀b,ρ id=some b→w'.heap[b]? =w.heap[b]?)(h:QeOk w ρ id k l i x):QeOk w' ρ' id' k l i x:=by
 obtain⟨b,o,cs,ty,fz,h1,h2,h3⟩:=h
 exact⟨b,o,cs,ty,fz,hρ.trans h1,(hw b h1).trans h2,h3⟩
theorem QueOk.mono {w w':World}{ρ ρ':Nat→Option Nat}{id id':Nat}{k:IntKind}{l:List Int}{d:Nat}{x:Value}(hρ:ρ' id'=ρ id)(hw:∀b,ρ id=some b→w'.heap[b]? =w.heap[b]?)(h:QueOk w ρ id k l d x):QueOk w' ρ' id' k l d x:=by
 obtain⟨b,o,c,cs,ty,fz,h1,h2,h3⟩:=h
 exact⟨b,o,c,cs,ty,fz,hρ.trans h1,(hw b h1).trans h2,h3⟩

theorem FullOk.len {w:World}{ρ:Nat→Option Nat}{id len:Nat}{k:Blk}{a:Option Addr}{l c:Nat}(h:FullOk w ρ id len k (.slice a l c)):l=len:=by
 rcases h with⟨e,_,_,e2⟩|⟨e,_,_,a',e2⟩|⟨_,b,cap,cs,ty,fz,p1,p2,e2,p3,p4,p5⟩
 ·cases e2;exact e.symm
 ·cases e2;exact e.symm
 ·cases e2;rfl
mutual
inductive RelV (w:World)(F:Nat→Prop)(ρ:Nat→Option Nat)(h:Nat→Option HO):AV→Value→Prop where
 |imm (v:AV) (x:Value) (hi:RelI w F v x):RelV w F ρ h v x
 |ptr (id off b:Nat) (o:HO) (hb:ρ id=some b) (hh:h id=some o) (hx:o.box=true):RelV w F ρ h (.ptr id off) (.pointer (some ⟨b,off,none⟩))
 |ep (id n off:Nat) (k:Blk) (x:Value) (hh:h id=some (.blk k)) (hle:n≤k.n) (hp:∃a,x=.pointer a) (hx:k.n=n→∃b,ρ id=some b∧x=.pointer (some ⟨b,off,none⟩)):RelV w F ρ h (.ep id n off) x
 |full (id len:Nat) (k:Blk) (x:Value) (hh:h id=some (.blk k)) (hle:len≤k.n) (hp:∃a l c,x=.slice a l c) (hx:k.n=len→FullOk w ρ id len k x):RelV w F ρ h (.full id len) x
 |sl (id off len cap b:Nat) (k:Blk) (hb:ρ id=some b) (hh:h id=some (.blk k)) (hx:k.bx=true) (hlc:len≤cap):RelV w F ρ h (.sl id off len cap) (.slice (some ⟨b,off,none⟩) len cap)
 |fn (f:Nat) (l1 l2:List AV) (x1 x2:Array Value) (h1:RelVs w F ρ h l1 x1.toList) (h2:RelVs w F ρ h l2 x2.toList):
   RelV w F ρ h (.fn f l1 l2) (.func (.func f) x1 x2)
 |agg (l:List AV) (x:Array Value) (hl:RelVs w F ρ h l x.toList):RelV w F ρ h (.agg l) (.agg x)
 |tup (l:List AV) (x:Array Value) (hl:RelVs w F ρ h l x.toList):RelV w F ρ h (.tup l) (.tuple x)
 |may (b:Bool) (v:AV) (x:Value) (hb:b=true→RelV w F ρ h v x) (hn:b=false→x=undef):RelV w F ρ h (.may b v) x
 |iface (t:Nat) (v:AV) (x:Value) (hv:RelV w F ρ h v x):RelV w F ρ h (.iface t v) (.iface t x)
 |yld (id b:Nat) (o:HO) (hb:ρ id=some b) (hh:h id=some o) (hx:o.box=true):RelV w F ρ h (.yld id) (.func (.yield b) #[] #[])
 |spare (id:Nat) (a:Option Addr) (l c:Nat) (hf:RelV w F ρ h (.full id 0) (.slice a 0 c)):RelV w F ρ h (.spare id) (.slice a l c)
 |fullc (id len cap:Nat) (a:Option Addr) (hf:RelV w F ρ h (.full id len) (.slice a len cap)):RelV w F ρ h (.fullc id len cap) (.slice a len cap)
 |mp (id b:Nat) (o:HO) (hb:ρ id=some b) (hh:h id=some o) (hx:o.box=true):RelV w F ρ h (.mp id) (.map (some b))
 |vw (id n sz off len:Nat) (k:Blk) (x:Value) (hh:h id=some (.blk k)) (hle:n≤k.n) (hp:∃a l c,x=.slice a l c)
   (hx:k.n=n→off+len≤n∧∃a c,FullOk w ρ id n k (.slice a n c)∧x=.slice (a.map fun p=>p.add (off*sz)) len (c-off)):RelV w F ρ h (.vw id n sz off len) x
 |qu (id v d:Nat) (k:IntKind) (l:List Int) (v':Nat) (x:Value) (hh:h id=some (.que k l v')) (hle:v≤v') (hp:∃a l c,x=.slice a l c) (hx:v'=v→QueOk w ρ id k l d x):RelV w F ρ h (.qu id v d) x
 |qe (id v i:Nat) (k:IntKind) (l:List Int) (v':Nat) (x:Value) (hh:h id=some (.que k l v')) (hle:v≤v') (hp:∃a,x=.pointer a)
   (hx:v'=v→QeOk w ρ id k l i x):RelV w F ρ h (.qe id v i) x
inductive RelVs (w:World)(F:Nat→Prop)(ρ:Nat→Option Nat)(h:Nat→Option HO):List AV→List Value→Prop where
 |nil:RelVs w F ρ h [] []
 |cons (v:AV) (l:List AV) (x:Value) (xs:List Value) (hv:RelV w F ρ h v x) (hs:RelVs w F ρ h l xs):RelVs w F ρ h (v::l) (x::xs)
end

theorem RelV.unc {w:World}{F:Nat→Prop}{ρ:Nat→Option Nat}{h:Nat→Option HO}{v:AV}{x:Value}(hr:RelV w F ρ h v x):RelV w F ρ h (unc v) x:=by
 cases hr with
 |fullc id len cap a hf=>exact hf
 |imm v x hi=>cases v<;>first|exact .imm _ _ hi|cases hi
 |ptr id off b o hb hh hx=>exact .ptr id off b o hb hh hx
 |ep id n off k x hh hle hp hx=>exact .ep id n off k x hh hle hp hx
 |full id len k x hh hle hp hx=>exact .full id len k x hh hle hp hx
 |sl id off len cap b k hb hh hx hlc=>exact .sl id off len cap b k hb hh hx hlc
 |fn f l1 l2 x1 x2 h1 h2=>exact .fn f l1 l2 x1 x2 h1 h2
 |agg l x hl=>exact .agg l x hl
 |tup l x hl=>exact .tup l x hl
 |may b v x hb hn=>exact .may b v x hb hn
 |iface t v x hv=>exact .iface t v x hv
 |yld id b o hb hh hx=>exact .yld id b o hb hh hx
 |spare id a l c hf=>exact .spare id a l c hf
 |mp id b o hb hh hx=>exact .mp id b o hb hh hx
 |vw id n sz off len k x hh hle hp hx=>exact .vw id n sz off len k x hh hle hp hx
 |qu id v d k l v' x hh hle hp hx=>exact .qu id v d k l v' x hh hle hp hx
 |qe id v i k l v' x hh hle hp hx=>exact .qe id v i k l v' x hh hle hp hx

def RelE (w:World)(F:Nat→Prop)(ρ:Nat→Option Nat)(h:Nat→Option HO)(c:Cont)(i:Nat)(x:Value):Prop:=
 (match c with
 |.cells l=>RelV w F ρ h (l.getD i .undef) x
 |c=>RelI w F (c.getV i) x)∧x.oneCell'=true

def cellVl:Option IntKind→Int→Value
 |some k,n=>.int k n
 |none,n=>.bool (n !=0)
def cellsVl (l:List Int):Nat→List (Option IntKind)→List Value
 |_,[]=>[]
 |i,k::r=>cellVl k (l.getD i 0)::cellsVl l (i+1) r
def MV.vl (m:MV)(l:List Int):Value:=
 match m.agg with
 |true=>.agg (cellsVl l 0 m.ks).toArray
 |false=>match m.ks with
  |[k]=>cellVl k (l.getD 0 0)
  |_=>undef
def entV (kk vk:MV)(e:List Int×List Int×Nat):MapEntry:={key:=kk.vl e.1,val:=vk.vl e.2.1,born:=e.2.2}
theorem Cont.nmap {c:Cont}{i:Nat}(h:i<c.size):c.isMap=false:=by
 cases c<;>first|rfl|(simp[Cont.size]at h)
theorem Cont.map_size {c:Cont}(h:c.isMap=true):c.size=0:=by
 cases c<;>first|rfl|cases h
structure RelB (w:World)(F:Nat→Prop)(ρ:Nat→Option Nat)(h:Nat→Option HO)(k:Blk)(b:Nat):Prop where
 ex:k.c.isMap=false→∃cs ty fz,w.heap[b]? =some (.cells cs ty fz)∧(∀o,¬ (fz.1≤o∧o<fz.2))∧k.c.size≤cs.size∧
  ∀i,i<k.c.size→∃x,cs[i]? =some x∧RelE w F ρ h k.c i x
 mp:∀kk vk es ck,k.c=.maps kk vk es ck→w.heap[b]? =some (.map (es.map (entV kk vk)).toArray ck)∧∀e∈es,e.1.length=kk.ks.length
 mu:k.mu=true→¬ F b
 fr:k.mu=false→F b
theorem RelB.ofCells {w:World}{F:Nat→Prop}{ρ:Nat→Option Nat}{h:Nat→Option HO}{k:Blk}{b:Nat}(hnm:k.c.isMap=false)
  (ex:∃cs ty fz,w.heap[b]? =some (.cells cs ty fz)∧(∀o,¬ (fz.1≤o∧o<fz.2))∧k.c.size≤cs.size∧∀i,i<k.c.size→∃x,cs[i]? =some x∧RelE w F ρ h k.c i x)
  (mu:k.mu=true→¬ F b) (fr:k.mu=false→F b):RelB w F ρ h k b:=
 ⟨fun _=>ex,fun kk vk es ck e=>(by rw[e]at hnm;cases hnm),mu,fr⟩

def stOf:Nat→LoopState
 |0=>.ready
 |1=>.busy
 |2=>.done
 |_=>.exhausted
def Ex.code:Ex→Code
 |.normal=>.skip
 |.exit id=>.exit id
 |.ret=>.ret
structure RelL (G:GL)(w:World)(F:Nat→Prop)(ρ:Nat→Option Nat)(h:Nat→Option HO)(l:LoopS)(r:Loop):Prop where
 st:r.state=stOf l.st
 pend:r.pending=l.pend.map Ex.code
 size:r.tmps.size=l.n
 tmps:∀t v,aget l.t t=some v→RelV w F ρ h v (r.tmps.getD t undef)
 ps:r.params.toList=l.ps
 as:G.cm r.assign l.as
 bd:G.cm r.body l.bd

def RelO (G:GL)(w:World)(F:Nat→Prop)(ρ:Nat→Option Nat)(h:Nat→Option HO)(id:Nat):HO→Prop
 |.blk k=>k.c.size=k.n*k.sz∧((k.n=0∧ρ id=none)∨∃b,ρ id=some b∧RelB w F ρ h k b)
 |.iter s pos=>∃b,ρ id=some b∧¬ F b∧∃bs:ByteArray,bs.data.toList=s∧w.heap[b]? =some (.stringIter bs pos)
 |.loop l=>∃b,ρ id=some b∧¬ F b∧∃r:Loop,w.heap[b]? =some (.loop r)∧RelL G w F ρ h l r
 |.que _ _ _=>∃b,ρ id=some b∧¬ F b∧∃cs ty fz,w.heap[b]? =some (.cells cs ty fz)
 |.mit m ck seen=>∃b mb,ρ id=some b∧¬ F b∧w.heap[b]? =some (.mapIter (some mb) ck seen.toArray ck)∧RelV w F ρ h (.mp m) (.map (some mb))

def GlobOk (G:GL)(F:Nat→Prop)(w:World):Prop:=
 ∀g c,G.g g=some c→F g∧∃xs:Nat→Value,(∀i,i<c.size→w.cell? ⟨g,i,none⟩=some (xs i))∧(∀i,i<c.size→RelI w F (c.getV i) (xs i))∧(∀i,i<c.size→(xs i).oneCell'=true)

def markOf (r:Nat):Deferred:={target:=.collected r,args:= #[]}
def DefOk (F:Nat→Prop)(ρ:Nat→Option Nat)(a:Act)(w:World):Prop:=
 ∃rs:List Nat,rs.Nodup∧a.defers=rs.map markOf∧∀r,r∈rs→w.heap[r]? =some (.deferred (some []))∧(∀id,ρ id≠some r)∧¬ F r

structure Rel (G:GL)(F:Nat→Prop)(ρ:Nat→Option Nat)(st:St)(a:Act)(w:World):Prop where
 size:a.tmps.size=st.n
 tmps:∀t v,aget st.t t=some v→RelV w F ρ (aget st.h) v (a.tmps.getD t undef)
 heap:∀id o,aget st.h id=some o→RelO G w F ρ (aget st.h) id o
 dom:∀id b,ρ id=some b→∃o,aget st.h id=some o
 inj:∀i j b,ρ i=some b→ρ j=some b→i=j
 lt:∀id b,ρ id=some b→b<w.heap.size
 frz:∀b,F b→b<w.heap.size
 glob:GlobOk G F w
 defs:DefOk F ρ a w

def IoEq (G:GL)(w w':World):Prop:=w'.os=w.os∧w'.output=w.output∧(G.strong→w'.tape=w.tape∧w.drawn≤w'.drawn)
theorem IoEq.refl {G:GL}(w:World):IoEq G w w:=⟨rfl,rfl,fun _=>⟨rfl,Nat.le_refl _⟩⟩
theorem IoEq.trans {G:GL}{a b c:World}(h:IoEq G a b)(k:IoEq G b c):IoEq G a c:=⟨k.1.trans h.1,k.2.1.trans h.2.1,fun s=>⟨(k.2.2 s).1.trans (h.2.2 s).1,Nat.le_trans (h.2.2 s).2 (k.2.2 s).2⟩⟩

structure Ext (G:GL)(F:Nat→Prop)(ρ:Nat→Option Nat)(w:World)(F':Nat→Prop)(ρ':Nat→Option Nat)(w':World):Prop where
 io:IoEq G w w'
 size:w.heap.size≤w'.heap.size
 same:∀b,b<w.heap.size→(∀id,ρ id≠some b)→w'.heap[b]? =w.heap[b]?
 frz:∀b,F b→w'.heap[b]? =w.heap[b]?
 keep:∀b,F b→F' b
 more:∀b,F' b→F b∨w.heap.size≤b∨∃id,ρ id=some b
 im:∀id b,ρ' id=some b→(∃id',ρ id'=some b)∨w.heap.size≤b

theorem Ext.refl {G:GL}(F:Nat→Prop)(ρ:Nat→Option Nat)(w:World):Ext G F ρ w F ρ w:=
 ⟨IoEq.refl _,Nat.le_refl _,fun _ _ _=>rfl,fun _ _=>rfl,fun _ h=>h,fun _ h=>.inl h,fun id _ h=>.inl ⟨id,h⟩⟩

theorem Ext.trans {G:GL}{F F' F'':Nat→Prop}{ρ ρ' ρ'':Nat→Option Nat}{w w' w'':World}(h:Ext G F ρ w F' ρ' w')(k:Ext G F' ρ' w' F'' ρ'' w''):
  Ext G F ρ w F'' ρ'' w'' where
 io:=h.io.trans k.io
 size:=Nat.le_trans h.size k.size
 same:=fun b hb hn=>by
  rw[k.same b (Nat.lt_of_lt_of_le hb h.size) (fun id hid=>by
   rcases h.im id b hid with⟨id',h'⟩|h'
   ·exact hn id' h'
   ·omega),h.same b hb hn]
 frz:=fun b hb=>by rw[k.frz b (h.keep b hb),h.frz b hb]
 keep:=fun b hb=>k.keep b (h.keep b hb)
 more:=fun b hb=>by
  rcases k.more b hb with h'|h'|⟨id,h'⟩
  ·exact h.more b h'
  ·exact .inr (.inl (Nat.le_trans h.size h'))
  ·rcases h.im id b h' with⟨id',h''⟩|h''
   ·exact .inr (.inr ⟨id',h''⟩)
   ·exact .inr (.inl h'')
 im:=fun id b hb=>by
  rcases k.im id b hb with⟨id',h'⟩|h'
  ·exact h.im id' b h'
  ·exact .inr (Nat.le_trans h.size h')

/-! ### Memory goes on -/

theorem cell_of_same {w w':World}{b o:Nat}{x:Value}(h:w'.heap[b]? =w.heap[b]?)(hc:w.cell? ⟨b,o,none⟩=some x):w'.cell? ⟨b,o,none⟩=some x:=by
 simp only[World.cell?]at hc ⊢; rw[h];exact hc

mutual
theorem RelI.mono {w w':World}{F F':Nat→Prop}(hw:∀b,F b→w'.heap[b]? =w.heap[b]?)(hF:∀b,F b→F' b):
  ∀{v:AV} {x:Value},RelI w F v x→RelI w' F' v x
 |_,_,.undef x=>.undef x
 |_,_,.bool b=>.bool b
 |_,_,.int k n=>.int k n
 |_,_,.str l s h=>.str l s h
 |_,_,.nilp=>.nilp
 |_,_,.nils=>.nils
 |_,_,.nilf=>.nilf
 |_,_,.nili=>.nili
 |_,_,.nn a l c=>.nn a l c
 |_,_,.iptr c b o xs hb hc hr ho=>.iptr c b o xs (hF b hb) (fun i hi=>cell_of_same (hw b hb) (hc i hi)) (fun i hi=>(hr i hi).mono hw hF) ho
 |_,_,.imm c len cap b o cap' xs hb hc hr ho hl hcap=>.imm c len cap b o cap' xs (hF b hb) (fun i hi=>cell_of_same (hw b hb) (hc i hi)) (fun i hi=>(hr i hi).mono hw hF) ho hl hcap
 |_,_,.imm0 c cap x hc hcap=>.imm0 c cap x hc hcap
 |_,_,.fn f l1 l2 x1 x2 h1 h2=>.fn f l1 l2 x1 x2 (h1.mono hw hF) (h2.mono hw hF)
 |_,_,.agg l x h=>.agg l x (h.mono hw hF)
 |_,_,.tup l x h=>.tup l x (h.mono hw hF)
 |_,_,.may b v x h hn=>.may b v x (fun hb=>(h hb).mono hw hF) hn
 |_,_,.iface t v x h=>.iface t v x (h.mono hw hF)
theorem RelIs.mono {w w':World}{F F':Nat→Prop}(hw:∀b,F b→w'.heap[b]? =w.heap[b]?)(hF:∀b,F b→F' b):
  ∀{l:List AV} {xs:List Value},RelIs w F l xs→RelIs w' F' l xs
 |_,_,.nil=>.nil
 |_,_,.cons v l x xs h hs=>.cons v l x xs (h.mono hw hF) (hs.mono hw hF)
end

structure HKeep (w:World)(ρ:Nat→Option Nat)(h:Nat→Option HO)(w':World)(ρ':Nat→Option Nat)(h':Nat→Option HO):Prop where
 box:∀id o,h id=some o→o.box=true→∃o',h' id=some o'∧o'.box=true∧ρ' id=ρ id
 blk:∀id k,h id=some (.blk k)→∃k',h' id=some (.blk k')∧k'.bx=k.bx∧k.n≤k'.n∧
  (k'.n=k.n→k'.nil=k.nil∧k'.sz=k.sz∧(k'.cap=k.cap∨k'.cap=none)∧ρ' id=ρ id)
 sz:∀(b:Nat) (cs:Array Value) (ty:TypeId) (fz:Nat×Nat),w.heap[b]? =some (.cells cs ty fz)→∃cs' ty' fz',w'.heap[b]? =some (.cells cs' ty' fz')∧cs'.size=cs.size
 que:∀id k l v,h id=some (.que k l v)→∃k' l' v',h' id=some (.que k' l' v')∧v≤v'∧
  (v'=v→k'=k∧l'=l∧ρ' id=ρ id∧∀b,ρ id=some b→w'.heap[b]? =w.heap[b]?)

theorem FullOk.mono {w w':World}{ρ ρ':Nat→Option Nat}{id len:Nat}{k k':Blk}{x:Value}(hn:k'.nil=k.nil)(hsz:k'.sz=k.sz)
  (hc:k'.cap=k.cap∨k'.cap=none) (hρ:ρ' id=ρ id)
  (hw:∀(b:Nat) (cs:Array Value) (ty:TypeId) (fz:Nat×Nat),w.heap[b]? =some (.cells cs ty fz)→∃cs' ty' fz',w'.heap[b]? =some (.cells cs' ty' fz')∧cs'.size=cs.size)
  (h:FullOk w ρ id len k x):FullOk w' ρ' id len k' x:=by
 have hcap:∀n,k'.cap=some n→k.cap=some n:=fun n e=>by rcases hc with h'|h'<;>simp_all
 rcases h with⟨h1,h2,h2',h3⟩|⟨h1,h2,h3,h4⟩|⟨h1,b,cap,cs,ty,fz,h2,h3,h4,h5,h6,h7⟩
 ·exact .inl ⟨h1,hn▸h2,fun n e=>h2' n (hcap n e),h3⟩
 ·exact .inr (.inl ⟨h1,hn▸h2,fun n e=>h3 n (hcap n e),h4⟩)
 ·obtain⟨cs',ty',fz',g1,g2⟩:=hw b cs ty fz h3
  exact .inr (.inr ⟨hn▸h1,b,cap,cs',ty',fz',hρ▸h2,g1,h4,h5,by rw[hsz,g2];exact h6,fun n e=>h7.1 n (hcap n e),h7.2⟩)

mutual
theorem RelV.mono {w w':World}{F F':Nat→Prop}{ρ ρ':Nat→Option Nat}{h h':Nat→Option HO}
  (hw:∀b,F b→w'.heap[b]? =w.heap[b]?) (hF:∀b,F b→F' b) (hk:HKeep w ρ h w' ρ' h'):
  ∀{v:AV} {x:Value},RelV w F ρ h v x→RelV w' F' ρ' h' v x
 |_,_,.imm v x hi=>.imm v x (hi.mono hw hF)
 |_,_,.ptr id off b o hb hh hx=>by
  obtain⟨o',h1,h2,h3⟩:=hk.box id o hh hx
  exact .ptr id off b o' (h3.trans hb) h1 h2
 |_,_,.ep id n off k x hh hle hp hx=>by
  obtain⟨k',h1,_,h2,h3⟩:=hk.blk id k hh
  refine .ep id n off k' x h1 (Nat.le_trans hle h2) hp (fun e=>?_)
  have e':k.n=n:=by omega
  obtain⟨b,hb,hxx⟩:=hx e'
  exact⟨b,(h3 (e.trans e'.symm)).2.2.2.trans hb,hxx⟩
 |_,_,.full id len k x hh hle hp hx=>by
  obtain⟨k',h1,_,h2,h3⟩:=hk.blk id k hh
  refine .full id len k' x h1 (Nat.le_trans hle h2) hp (fun e=>?_)
  have e':k.n=len:=by omega
  obtain⟨g1,g2,g3,g4⟩:=h3 (e.trans e'.symm)
  exact(hx e').mono g1 g2 g3 g4 hk.sz
 |_,_,.sl id off len cap b k hb hh hx hlc=>by
  obtain⟨k',h1,h2,_,_⟩:=hk.blk id k hh
  obtain⟨o',g1,g2,g3⟩:=hk.box id (.blk k) hh hx
  exact .sl id off len cap b k' (g3.trans hb) h1 (h2.trans hx) hlc
 |_,_,.fn f l1 l2 x1 x2 h1 h2=>.fn f l1 l2 x1 x2 (h1.mono hw hF hk) (h2.mono hw hF hk)
 |_,_,.agg l x hl=>.agg l x (hl.mono hw hF hk)
 |_,_,.tup l x hl=>.tup l x (hl.mono hw hF hk)
 |_,_,.may b v x hb hn=>.may b v x (fun e=>(hb e).mono hw hF hk) hn
 |_,_,.iface t v x hv=>.iface t v x (hv.mono hw hF hk)
 |_,_,.yld id b o hb hh hx=>by
  obtain⟨o',h1,h2,h3⟩:=hk.box id o hh hx
  exact .yld id b o' (h3.trans hb) h1 h2
 |_,_,.spare id a l c hf=>.spare id a l c (hf.mono hw hF hk)
 |_,_,.mp id b o hb hh hx=>by
  obtain⟨o',h1,h2,h3⟩:=hk.box id o hh hx
  exact .mp id b o' (h3.trans hb) h1 h2
 |_,_,.fullc id len cap a hf=>.fullc id len cap a (hf.mono hw hF hk)
 |_,_,.vw id n sz off len k x hh hle hp hx=>by
  obtain⟨k',h1,_,h2,h3⟩:=hk.blk id k hh
  refine .vw id n sz off len k' x h1 (Nat.le_trans hle h2) hp (fun e=>?_)
  have e':k.n=n:=by omega
  obtain⟨g1,g2,g3,g4⟩:=h3 (e.trans e'.symm)
  obtain⟨q1,a,c,q2,q3⟩:=hx e'
  exact⟨q1,a,c,q2.mono g1 g2 g3 g4 hk.sz,q3⟩
 |_,_,.qu id v d k l v1 x hh hle hp hx=>by
  obtain⟨k',l',v',h1,h2,h3⟩:=hk.que id k l v1 hh
  refine .qu id v d k' l' v' x h1 (Nat.le_trans hle h2) hp (fun e=>?_)
  have e':v1=v:=by omega
  obtain⟨rfl,rfl,g1,g2⟩:=h3 (e.trans e'.symm)
  exact(hx e').mono g1 g2
 |_,_,.qe id v i k l v1 x hh hle hp hx=>by
  obtain⟨k',l',v',h1,h2,h3⟩:=hk.que id k l v1 hh
  refine .qe id v i k' l' v' x h1 (Nat.le_trans hle h2) hp (fun e=>?_)
  have e':v1=v:=by omega
  obtain⟨rfl,rfl,g1,g2⟩:=h3 (e.trans e'.symm)
  exact(hx e').mono g1 g2
theorem RelVs.mono {w w':World}{F F':Nat→Prop}{ρ ρ':Nat→Option Nat}{h h':Nat→Option HO}
  (hw:∀b,F b→w'.heap[b]? =w.heap[b]?) (hF:∀b,F b→F' b) (hk:HKeep w ρ h w' ρ' h'):
  ∀{l:List AV} {xs:List Value},RelVs w F ρ h l xs→RelVs w' F' ρ' h' l xs
 |_,_,.nil=>.nil
 |_,_,.cons v l x xs h hs=>.cons v l x xs (h.mono hw hF hk) (hs.mono hw hF hk)
end

theorem RelE.mono {w w':World}{F F':Nat→Prop}{ρ ρ':Nat→Option Nat}{h h':Nat→Option HO}
  (hw:∀b,F b→w'.heap[b]? =w.heap[b]?) (hF:∀b,F b→F' b) (hk:HKeep w ρ h w' ρ' h') {c:Cont} {i:Nat} {x:Value}
  (hr:RelE w F ρ h c i x):RelE w' F' ρ' h' c i x:=by
 refine⟨?_,hr.2⟩
 have hr:=hr.1
 cases c with
 |cells l=>exact RelV.mono hw hF hk hr
 |_=>exact RelI.mono hw hF hr

theorem GlobOk.mono {w w':World}{F F':Nat→Prop}{G:GL}(hw:∀b,F b→w'.heap[b]? =w.heap[b]?)(hF:∀b,F b→F' b)
  (h:GlobOk G F w):GlobOk G F' w':=fun g c hg=>by
 obtain⟨hf,xs,h1,h2,h3⟩:=h g c hg
 exact⟨hF g hf,xs,fun i hi=>cell_of_same (hw g hf) (h1 i hi),fun i hi=>(h2 i hi).mono hw hF,h3⟩

theorem RelL.mono {G:GL}{w w':World}{F F':Nat→Prop}{ρ ρ':Nat→Option Nat}{h h':Nat→Option HO}
  (hw:∀b,F b→w'.heap[b]? =w.heap[b]?) (hF:∀b,F b→F' b) (hk:HKeep w ρ h w' ρ' h') {l:LoopS} {r:Loop} (hr:RelL G w F ρ h l r):RelL G w' F' ρ' h' l r:=
 ⟨hr.st,hr.pend,hr.size,fun t v e=>(hr.tmps t v e).mono hw hF hk,hr.ps,hr.as,hr.bd⟩

theorem RelI.toV {w:World}{F:Nat→Prop}{ρ:Nat→Option Nat}{h:Nat→Option HO}{v:AV}{x:Value}(hi:RelI w F v x):RelV w F ρ h v x:=.imm v x hi

theorem RelIs.len {w:World}{F:Nat→Prop}:∀{l:List AV} {xs:List Value},RelIs w F l xs→l.length=xs.length
 |_,_,.nil=>rfl
 |_,_,.cons _ _ _ _ _ hs=>by simp[hs.len]
theorem RelVs.len {w:World}{F:Nat→Prop}{ρ:Nat→Option Nat}{h:Nat→Option HO}:∀{l:List AV} {xs:List Value},RelVs w F ρ h l xs→l.length=xs.length
 |_,_,.nil=>rfl
 |_,_,.cons _ _ _ _ _ hs=>by simp[hs.len]

theorem RelV.vwf {w:World}{F:Nat→Prop}{ρ:Nat→Option Nat}{h:Nat→Option HO}{id n sz off len:Nat}{x:Value}(hr:RelV w F ρ h (.vw id n sz off len) x){k:Blk}(hk:h id=some (.blk k))(hn:k.n=n):
  off+len≤n∧∃a c,FullOk w ρ id n k (.slice a n c)∧x=.slice (a.map fun p=>p.add (off*sz)) len (c-off):=by
 cases hr with
 |imm _ _ hi=>cases hi
 |vw _ _ _ _ _ k1 _ hh hle hp hx=>
  rw[hk]at hh;cases hh
  exact hx hn
theorem RelV.vws {w:World}{F:Nat→Prop}{ρ:Nat→Option Nat}{h:Nat→Option HO}{id n sz off len:Nat}{x:Value}(hr:RelV w F ρ h (.vw id n sz off len) x){k:Blk}(hk:h id=some (.blk k))(hn:k.n=n):
  off+len≤n∧((n=0∧∃a:Option Addr,x=.slice a 0 0)∨
   ∃b cap cs ty fz,ρ id=some b∧w.heap[b]? =some (.cells cs ty fz)∧x=.slice (some ⟨b,off*sz,none⟩) len (cap-off)∧n≤cap∧cap*k.sz≤cs.size):=by
 obtain⟨hle,a,c,hf,rfl⟩:=hr.vwf hk hn
 refine⟨hle,?_⟩
 rcases hf with⟨e,_,_,e2⟩|⟨e,_,_,a',e2⟩|⟨_,b,cap,cs,ty,fz,p1,p2,e2,p3,p4,p5⟩
 ·cases e2
  refine .inl ⟨e,none,?_⟩
  have:len=0:=by omega
  subst this;simp
 ·cases e2
  refine .inl ⟨e,some (a'.add (off*sz)),?_⟩
  have:len=0:=by omega
  subst this;simp
 ·cases e2
  exact .inr ⟨b,c,cs,ty,fz,p1,p2,by simp[Addr.add];omega,p3,p4⟩
theorem RelV.fullf {w:World}{F:Nat→Prop}{ρ:Nat→Option Nat}{h:Nat→Option HO}{id n:Nat}{x:Value}(hr:RelV w F ρ h (.full id n) x){k:Blk}(hk:h id=some (.blk k))(hn:k.n=n):
  ∃a c,FullOk w ρ id n k (.slice a n c)∧x=.slice a n c∧n≤c:=by
 cases hr with
 |imm _ _ hi=>cases hi
 |full _ _ k1 _ hh hle hp hx=>
  rw[hk]at hh;cases hh
  have hf:=hx hn
  rcases hf with⟨e,_,_,e2⟩|⟨e,_,_,a',e2⟩|⟨_,b,cap,cs,ty,fz,p1,p2,e2,p3,p4,p5⟩
  ·subst e2;rw[e]at hx hn ⊢; exact⟨_,_,hx hn,rfl,Nat.le_refl _⟩
  ·subst e2;rw[e]at hx hn ⊢; exact⟨_,_,hx hn,rfl,Nat.le_refl _⟩
  ·subst e2;exact⟨_,_,hx hn,rfl,p3⟩
theorem RelV.aggs {w:World}{F:Nat→Prop}{ρ:Nat→Option Nat}{h:Nat→Option HO}{l:List AV}{x:Value}(hr:RelV w F ρ h (.agg l) x):
  ∃xs:Array Value,x=.agg xs∧RelVs w F ρ h l xs.toList:=by
 cases hr with
 |imm _ _ hi=>cases hi with|agg _ xs hs=>exact⟨xs,rfl,go hs⟩
 |agg _ xs hl=>exact⟨xs,rfl,hl⟩
where
 go:∀{l:List AV} {xs:List Value},RelIs w F l xs→RelVs w F ρ h l xs
  |_,_,.nil=>.nil
  |_,_,.cons v l x xs h hs=>.cons v l x xs h.toV (go hs)
theorem RelIs.toVs {w:World}{F:Nat→Prop}{ρ:Nat→Option Nat}{h:Nat→Option HO}:∀{l:List AV} {xs:List Value},RelIs w F l xs→RelVs w F ρ h l xs
 |_,_,.nil=>.nil
 |_,_,.cons v l x xs h hs=>.cons v l x xs h.toV hs.toVs
theorem RelV.tups {w:World}{F:Nat→Prop}{ρ:Nat→Option Nat}{h:Nat→Option HO}{l:List AV}{x:Value}(hr:RelV w F ρ h (.tup l) x):
  ∃xs:Array Value,x=.tuple xs∧RelVs w F ρ h l xs.toList:=by
 cases hr with
 |imm _ _ hi=>cases hi with|tup _ xs hs=>exact⟨xs,rfl,hs.toVs⟩
 |tup _ xs hl=>exact⟨xs,rfl,hl⟩
theorem RelV.fns {w:World}{F:Nat→Prop}{ρ:Nat→Option Nat}{h:Nat→Option HO}{f:Nat}{a b:List AV}{x:Value}(hr:RelV w F ρ h (.fn f a b) x):
  ∃xs ys:Array Value,x=.func (.func f) xs ys∧RelVs w F ρ h a xs.toList∧RelVs w F ρ h b ys.toList:=by
 cases hr with
 |imm _ _ hi=>cases hi with|fn _ _ _ xs ys h1 h2=>exact⟨xs,ys,rfl,h1.toVs,h2.toVs⟩
 |fn _ _ _ xs ys h1 h2=>exact⟨xs,ys,rfl,h1,h2⟩
theorem RelV.bools {w:World}{F:Nat→Prop}{ρ:Nat→Option Nat}{h:Nat→Option HO}{b:Bool}{x:Value}(hr:RelV w F ρ h (.bool b) x):x=.bool b:=by
 cases hr with|imm _ _ hi=>cases hi;rfl
theorem RelV.ints {w:World}{F:Nat→Prop}{ρ:Nat→Option Nat}{h:Nat→Option HO}{k:IntKind}{n:Int}{x:Value}(hr:RelV w F ρ h (.int k n) x):x=.int k n:=by
 cases hr with|imm _ _ hi=>cases hi;rfl
theorem RelV.strs {w:World}{F:Nat→Prop}{ρ:Nat→Option Nat}{h:Nat→Option HO}{l:List UInt8}{x:Value}(hr:RelV w F ρ h (.str l) x):∃s:ByteArray,x=.string s∧s.data.toList=l:=by
 cases hr with|imm _ _ hi=>cases hi with|str _ s h=>exact⟨s,rfl,h⟩

theorem RelV.notAgg {w:World}{F:Nat→Prop}{ρ:Nat→Option Nat}{h:Nat→Option HO}{v:AV}{x:Value}(hr:RelV w F ρ h v x)(hm:∀b u,v≠ .may b u)(hu:v≠ .undef)(ha:∀l,v≠ .agg l):
  x.cells= #[x]:=by
 cases hr with
 |imm _ _ hi=>
  cases hi
  case undef=>exact absurd rfl hu
  case may b v' _ _=>exact absurd rfl (hm _ _)
  case agg l _ _=>exact absurd rfl (ha _)
  all_goals rfl
 |ep _ _ _ _ _ _ _ hp _=>obtain⟨_,rfl⟩:=hp;rfl
 |full _ _ _ _ _ _ hp _=>obtain⟨_,_,_,rfl⟩:=hp;rfl
 |vw _ _ _ _ _ _ _ _ _ hp _=>obtain⟨_,_,_,rfl⟩:=hp;rfl
 |qu _ _ _ _ _ _ _ _ _ hp _=>obtain⟨_,_,_,rfl⟩:=hp;rfl
 |qe _ _ _ _ _ _ _ _ _ hp _=>obtain⟨_,rfl⟩:=hp;rfl
 |may b v' _ _ _=>exact absurd rfl (hm _ _)
 |agg l _ _=>exact absurd rfl (ha _)
 |_=>rfl

theorem RelV.csOf {w:World}{F:Nat→Prop}{ρ:Nat→Option Nat}{h:Nat→Option HO}{v:AV}{x:Value}(hr:RelV w F ρ h v x)(hm:∀b u,v≠ .may b u)(hu:v≠ .undef):
  RelVs w F ρ h v.cs x.cells.toList:=by
 by_cases ha:∃l,v=.agg l
 ·obtain⟨l,rfl⟩:=ha
  obtain⟨xs,rfl,hs⟩:=hr.aggs
  exact hs
 ·have hx:=hr.notAgg hm hu (fun l e=>ha ⟨l,e⟩)
  have hv:v.cs=[v]:=by cases v<;>first|rfl|exact absurd ⟨_,rfl⟩ ha
  rw[hx,hv]
  exact .cons _ _ _ _ hr .nil

end Go.Ab

/-
 How the relation to memory goes on: a new block, a write, a slice that grows elsewhere, a block that is frozen.
-/
set_option linter.unusedVariables false
namespace Go.Ab
open Go

def upd {α:Type}(f:Nat→Option α)(i:Nat)(v:Option α):Nat→Option α:=fun j=>if j=i then v else f j
theorem upd_same {α:Type}(f:Nat→Option α)(i:Nat)(v:Option α):upd f i v i=v:=by simp[upd]
theorem upd_other {α:Type}(f:Nat→Option α){i j:Nat}(v:Option α)(h:j≠i):upd f i v j=f j:=by simp[upd,h]

structure MRel (G:GL)(F:Nat→Prop)(ρ:Nat→Option Nat)(H:Nat→Option HO)(w:World):Prop where
 heap:∀id o,H id=some o→RelO G w F ρ H id o
 dom:∀id b,ρ id=some b→∃o,H id=some o
 inj:∀i j b,ρ i=some b→ρ j=some b→i=j
 lt:∀id b,ρ id=some b→b<w.heap.size
 frz:∀b,F b→b<w.heap.size
 glob:GlobOk G F w

theorem RelB.mono {w w':World}{F F':Nat→Prop}{ρ ρ':Nat→Option Nat}{h h':Nat→Option HO}{k:Blk}{b:Nat}
  (hw:∀b,F b→w'.heap[b]? =w.heap[b]?) (hF:∀b,F b→F' b) (hk:HKeep w ρ h w' ρ' h')
  (hb:w'.heap[b]? =w.heap[b]?) (hF':F' b→F b) (hr:RelB w F ρ h k b):RelB w' F' ρ' h' k b where
 ex:=by
  intro hnm
  obtain⟨cs,ty,fz,h1,h2,h3,h4⟩:=hr.ex hnm
  exact⟨cs,ty,fz,hb.trans h1,h2,h3,fun i hi=>by obtain⟨x,g1,g2⟩:=h4 i hi;exact⟨x,g1,g2.mono hw hF hk⟩⟩
 mp:=fun kk vk es ck e=>⟨hb.trans (hr.mp kk vk es ck e).1,(hr.mp kk vk es ck e).2⟩
 mu:=fun e h=>hr.mu e (hF' h)
 fr:=fun e=>hF b (hr.fr e)

theorem RelO.mono {G:GL}{w w':World}{F F':Nat→Prop}{ρ ρ':Nat→Option Nat}{h h':Nat→Option HO}{id:Nat}{o:HO}
  (hw:∀b,F b→w'.heap[b]? =w.heap[b]?) (hF:∀b,F b→F' b) (hk:HKeep w ρ h w' ρ' h') (hρ:ρ' id=ρ id)
  (hb:∀b,ρ id=some b→w'.heap[b]? =w.heap[b]? ∧(F' b→F b)) (hr:RelO G w F ρ h id o):RelO G w' F' ρ' h' id o:=by
 cases o with
 |blk k=>
  obtain⟨h0,h1|⟨b,h1,h2⟩⟩:=hr
  ·exact⟨h0,.inl ⟨h1.1,hρ.trans h1.2⟩⟩
  ·exact⟨h0,.inr ⟨b,hρ.trans h1,h2.mono hw hF hk (hb b h1).1 (hb b h1).2⟩⟩
 |iter s pos=>
  obtain⟨b,h1,h2,bs,h3,h4⟩:=hr
  exact⟨b,hρ.trans h1,fun h=>h2 ((hb b h1).2 h),bs,h3,(hb b h1).1.trans h4⟩
 |loop l=>
  obtain⟨b,h1,h2,r,h3,h4⟩:=hr
  exact⟨b,hρ.trans h1,fun h=>h2 ((hb b h1).2 h),r,(hb b h1).1.trans h3,h4.mono hw hF hk⟩
 |que k l v=>
  obtain⟨b,h1,h2,cs,ty,fz,h3⟩:=hr
  exact⟨b,hρ.trans h1,fun h=>h2 ((hb b h1).2 h),cs,ty,fz,(hb b h1).1.trans h3⟩
 |mit m ck seen=>
  obtain⟨b,mb,h1,h2,h3,h4⟩:=hr
  exact⟨b,mb,hρ.trans h1,fun h=>h2 ((hb b h1).2 h),(hb b h1).1.trans h3,h4.mono hw hF hk⟩

theorem HKeep.refl (w:World)(ρ:Nat→Option Nat)(h:Nat→Option HO):HKeep w ρ h w ρ h:=
 ⟨fun id o h1 h2=>⟨o,h1,h2,rfl⟩,fun id k h1=>⟨k,h1,rfl,Nat.le_refl _,fun _=>⟨rfl,rfl,.inl rfl,rfl⟩⟩,fun _ cs ty fz h=>⟨cs,ty,fz,h,rfl⟩,fun id k l v h=>⟨k,l,v,h,Nat.le_refl _,fun _=>⟨rfl,rfl,rfl,fun _ _=>rfl⟩⟩⟩

theorem HKeep.trans {w w' w'':World}{ρ ρ' ρ'':Nat→Option Nat}{h h' h'':Nat→Option HO}(a:HKeep w ρ h w' ρ' h')(b:HKeep w' ρ' h' w'' ρ'' h''):HKeep w ρ h w'' ρ'' h'' where
 box:=fun id o h1 h2=>by
  obtain⟨o',g1,g2,g3⟩:=a.box id o h1 h2
  obtain⟨o'',k1,k2,k3⟩:=b.box id o' g1 g2
  exact⟨o'',k1,k2,k3.trans g3⟩
 blk:=fun id k h1=>by
  obtain⟨k',g1,g2,g3,g4⟩:=a.blk id k h1
  obtain⟨k'',l1,l2,l3,l4⟩:=b.blk id k' g1
  refine⟨k'',l1,l2.trans g2,Nat.le_trans g3 l3,fun e=>?_⟩
  have e1:k'.n=k.n:=by omega
  obtain⟨p1,p2,p3,p4⟩:=g4 e1
  obtain⟨q1,q2,q3,q4⟩:=l4 (by omega)
  exact⟨q1.trans p1,q2.trans p2,by rcases q3 with q|q<;>rcases p3 with p|p<;>simp_all,q4.trans p4⟩
 sz:=fun b1 cs ty fz h1=>by
  obtain⟨cs',ty',fz',g1,g2⟩:=a.sz b1 cs ty fz h1
  obtain⟨cs'',ty'',fz'',l1,l2⟩:=b.sz b1 cs' ty' fz' g1
  exact⟨cs'',ty'',fz'',l1,l2.trans g2⟩
 que:=fun id k l v h1=>by
  obtain⟨k',l',v',g1,g2,g3⟩:=a.que id k l v h1
  obtain⟨k'',l'',v'',p1,p2,p3⟩:=b.que id k' l' v' g1
  refine⟨k'',l'',v'',p1,Nat.le_trans g2 p2,fun e=>?_⟩
  obtain⟨q1,q2,q3,q4⟩:=g3 (by omega)
  obtain⟨r1,r2,r3,r4⟩:=p3 (by omega)
  exact⟨r1.trans q1,r2.trans q2,r3.trans q3,fun b hb=>(r4 b (q3.trans hb)).trans (q4 b hb)⟩

theorem MRel.same {G:GL}{F:Nat→Prop}{ρ:Nat→Option Nat}{H:Nat→Option HO}{w w':World}(hm:MRel G F ρ H w)(h:w'.heap=w.heap)(hio:IoEq G w w'):
  MRel G F ρ H w'∧Ext G F ρ w F ρ w'∧HKeep w ρ H w' ρ H:=by
 have hk:HKeep w ρ H w' ρ H:=⟨fun id o h1 h2=>⟨o,h1,h2,rfl⟩,fun id k h1=>⟨k,h1,rfl,Nat.le_refl _,fun _=>⟨rfl,rfl,.inl rfl,rfl⟩⟩,fun b cs ty fz hb=>⟨cs,ty,fz,by rw[h];exact hb,rfl⟩,fun id k l v h1=>⟨k,l,v,h1,Nat.le_refl _,fun _=>⟨rfl,rfl,rfl,fun _ _=>by rw[h]⟩⟩⟩
 have hw:∀b,F b→w'.heap[b]? =w.heap[b]? :=fun b _=>by rw[h]
 refine⟨⟨fun id o ho=>(hm.heap id o ho).mono hw (fun _ h=>h) hk rfl (fun b _=>⟨by rw[h],fun h=>h⟩),hm.dom,hm.inj,fun id b hb=>by rw[h];exact hm.lt id b hb,fun b hb=>by rw[h];exact hm.frz b hb,hm.glob.mono hw (fun _ h=>h)⟩,?_,hk⟩
 exact⟨hio,by rw[h];exact Nat.le_refl _,fun b _ _=>by rw[h],hw,fun _ h=>h,fun _ h=>.inl h,fun id b hb=>.inl ⟨id,hb⟩⟩

theorem push_old {w w':World}{o:Obj}(h:w'.heap=w.heap.push o){b:Nat}(hb:b<w.heap.size):w'.heap[b]? =w.heap[b]? :=by
 rw[h,Array.getElem?_push];simp[Nat.ne_of_lt hb]
theorem push_new {w w':World}{o:Obj}(h:w'.heap=w.heap.push o):w'.heap[w.heap.size]? =some o:=by
 rw[h];simp
theorem lt_of_some {w:World}{b:Nat}{o:Obj}(h:w.heap[b]? =some o):b<w.heap.size:=(Array.getElem?_eq_some_iff.1 h).1

theorem MRel.alloc {G:GL}{F:Nat→Prop}{ρ:Nat→Option Nat}{H:Nat→Option HO}{w w':World}(hm:MRel G F ρ H w)
  {site:Nat} {o:HO} {ob:Obj} (hs:H site=none) (hw:w'.heap=w.heap.push ob) (hio:IoEq G w w')
  (hO:∀ρ' H',HKeep w ρ H w' ρ' H'→ρ' site=some w.heap.size→RelO G w' F ρ' H' site o):
  ∃ρ',MRel G F ρ' (upd H site (some o)) w'∧Ext G F ρ w F ρ' w'∧HKeep w ρ H w' ρ' (upd H site (some o))∧ρ' site=some w.heap.size∧(∀i,i≠site→ρ' i=ρ i):=by
 have hρ:ρ site=none:=by
  cases e:ρ site with
  |none=>rfl
  |some b=>obtain⟨o,h⟩:=hm.dom site b e;rw[hs]at h;cases h
 have hne:∀id o,H id=some o→id≠site:=fun id o h e=>by rw[e,hs]at h;cases h
 have hsz:w'.heap.size=w.heap.size+1:=by rw[hw];simp
 have hold:∀b,b<w.heap.size→w'.heap[b]? =w.heap[b]? :=fun b hb=>push_old hw hb
 let ρ':=upd ρ site (some w.heap.size)
 have hk:HKeep w ρ H w' ρ' (upd H site (some o)):=
  ⟨fun id o' h1 h2=>⟨o',by rw[upd_other _ _ (hne id o' h1)];exact h1,h2,upd_other _ _ (hne id o' h1)⟩,
   fun id k h1=>⟨k,by rw[upd_other _ _ (hne id _ h1)];exact h1,rfl,Nat.le_refl _,fun _=>⟨rfl,rfl,.inl rfl,upd_other _ _ (hne id _ h1)⟩⟩,
   fun b cs ty fz hb=>⟨cs,ty,fz,(hold b (lt_of_some hb)).trans hb,rfl⟩,
   fun id k l v h1=>⟨k,l,v,by rw[upd_other _ _ (hne id _ h1)];exact h1,Nat.le_refl _,fun _=>⟨rfl,rfl,upd_other _ _ (hne id _ h1),fun b hb=>hold b (hm.lt id b hb)⟩⟩⟩
 have hwF:∀b,F b→w'.heap[b]? =w.heap[b]? :=fun b hb=>hold b (hm.frz b hb)
 refine⟨ρ',⟨fun id o' h1=>?_,fun id b hb=>?_,fun i j b hi hj=>?_,fun id b hb=>?_,fun b hb=>?_,hm.glob.mono hwF (fun _ h=>h)⟩,⟨hio,by omega,fun b hb _=>hold b hb,hwF,fun _ h=>h,fun _ h=>.inl h,fun id b hb=>?_⟩,hk,upd_same _ _ _,fun i hi=>upd_other _ _ hi⟩
 ·by_cases e:id=site
  ·subst e
   rw[upd_same]at h1
   cases h1
   exact hO ρ' _ hk (upd_same _ _ _)
  ·rw[upd_other _ _ e]at h1
   exact(hm.heap id o' h1).mono hwF (fun _ h=>h) hk (upd_other _ _ e) (fun b hb=>⟨hold b (hm.lt id b hb),fun h=>h⟩)
 ·by_cases e:id=site
  ·subst e;exact⟨o,upd_same _ _ _⟩
  ·obtain⟨o',ho'⟩:=hm.dom id b ((upd_other _ _ e).symm.trans hb)
   exact⟨o',by rw[upd_other _ _ e];exact ho'⟩
 ·by_cases e:i=site<;>by_cases e':j=site
  ·rw[e,e']
  ·subst e
   have h1:some w.heap.size=some b:=(upd_same _ _ _).symm.trans hi
   have h2:=hm.lt j b ((upd_other _ _ e').symm.trans hj)
   cases h1;omega
  ·subst e'
   have h1:some w.heap.size=some b:=(upd_same _ _ _).symm.trans hj
   have h2:=hm.lt i b ((upd_other _ _ e).symm.trans hi)
   cases h1;omega
  ·exact hm.inj i j b ((upd_other _ _ e).symm.trans hi) ((upd_other _ _ e').symm.trans hj)
 ·by_cases e:id=site
  ·subst e
   have h1:some w.heap.size=some b:=(upd_same _ _ _).symm.trans hb
   cases h1;omega
  ·have:=hm.lt id b ((upd_other _ _ e).symm.trans hb);omega
 ·have:=hm.frz b hb;omega
 ·by_cases e:id=site
  ·subst e
   have h1:some w.heap.size=some b:=(upd_same _ _ _).symm.trans hb
   cases h1;exact .inr (Nat.le_refl _)
  ·exact .inl ⟨id,(upd_other _ _ e).symm.trans hb⟩

theorem MRel.write {G:GL}{F:Nat→Prop}{ρ:Nat→Option Nat}{H:Nat→Option HO}{w w':World}(hm:MRel G F ρ H w)
  {id b:Nat} {o o':HO} {ob:Obj} (hi:H id=some o) (hb:ρ id=some b) (hF:¬ F b)
  (hn:w'.heap[b]? =some ob) (ho:∀j,j≠b→w'.heap[j]? =w.heap[j]?) (hsz:w'.heap.size=w.heap.size) (hio:IoEq G w w')
  (hcs:∀cs ty fz,w.heap[b]? =some (.cells cs ty fz)→∃cs' ty' fz',ob=.cells cs' ty' fz'∧cs'.size=cs.size)
  (hbox:o'.box=o.box) (hblk:∀k,o=.blk k→∃k',o'=.blk k'∧k.n≤k'.n∧(k'.n=k.n→k'.nil=k.nil∧k'.sz=k.sz∧(k'.cap=k.cap∨k'.cap=none)))
  (hO:HKeep w ρ H w' ρ (upd H id (some o'))→RelO G w' F ρ (upd H id (some o')) id o')
  (hque:∀k l v,o=.que k l v→∃k' l' v',o'=.que k' l' v'∧v<v':=by exact fun _ _ _ h=>by cases h):
  MRel G F ρ (upd H id (some o')) w'∧Ext G F ρ w F ρ w'∧HKeep w ρ H w' ρ (upd H id (some o')):=by
 have hwF:∀b,F b→w'.heap[b]? =w.heap[b]? :=fun j hj=>ho j (fun e=>hF (e▸hj))
 have hk:HKeep w ρ H w' ρ (upd H id (some o')):=
  ⟨fun i o1 h1 h2=>by
   by_cases e:i=id
   ·subst e;rw[hi]at h1;cases h1;exact⟨o',upd_same _ _ _,hbox.trans h2,rfl⟩
   ·exact⟨o1,by rw[upd_other _ _ e];exact h1,h2,rfl⟩,
   fun i k h1=>by
   by_cases e:i=id
   ·subst e;rw[hi]at h1;cases h1
    obtain⟨k',rfl,h2,h3⟩:=hblk k rfl
    exact⟨k',upd_same _ _ _,hbox,h2,fun e=>⟨(h3 e).1,(h3 e).2.1,(h3 e).2.2,rfl⟩⟩
   ·exact⟨k,by rw[upd_other _ _ e];exact h1,rfl,Nat.le_refl _,fun _=>⟨rfl,rfl,.inl rfl,rfl⟩⟩,
   fun j cs ty fz hj=>by
   by_cases e:j=b
   ·subst e;obtain⟨cs',ty',fz',h1,h2⟩:=hcs cs ty fz hj;exact⟨cs',ty',fz',hn.trans (by rw[h1]),h2⟩
   ·exact⟨cs,ty,fz,(ho j e).trans hj,rfl⟩,
   fun i k l v h1=>by
   by_cases e:i=id
   ·subst e;rw[hi]at h1;cases h1
    obtain⟨k',l',v',rfl,h2⟩:=hque k l v rfl
    exact⟨k',l',v',upd_same _ _ _,Nat.le_of_lt h2,fun e=>by omega⟩
   ·exact⟨k,l,v,by rw[upd_other _ _ e];exact h1,Nat.le_refl _,fun _=>⟨rfl,rfl,rfl,fun c hc=>ho c (fun e'=>e (hm.inj i id c hc (e'▸hb)))⟩⟩⟩
 refine⟨⟨fun i o1 h1=>?_,fun i c hc=>?_,hm.inj,fun i c hc=>by rw[hsz];exact hm.lt i c hc,fun c hc=>by rw[hsz];exact hm.frz c hc,hm.glob.mono hwF (fun _ h=>h)⟩,
  ⟨hio,by omega,fun j hj hnj=>ho j (fun e=>hnj id (e▸hb)),hwF,fun _ h=>h,fun _ h=>.inl h,fun i c hc=>.inl ⟨i,hc⟩⟩,hk⟩
 ·by_cases e:i=id
  ·subst e;rw[upd_same]at h1;cases h1;exact hO hk
  ·rw[upd_other _ _ e]at h1
   exact(hm.heap i o1 h1).mono hwF (fun _ h=>h) hk rfl (fun c hc=>⟨ho c (fun e'=>e (hm.inj i id c hc (e'▸hb))),fun h=>h⟩)
 ·obtain⟨o1,h1⟩:=hm.dom i c hc
  by_cases e:i=id
  ·subst e;exact⟨o',upd_same _ _ _⟩
  ·exact⟨o1,by rw[upd_other _ _ e];exact h1⟩

theorem MRel.move {G:GL}{F:Nat→Prop}{ρ:Nat→Option Nat}{H:Nat→Option HO}{w w':World}(hm:MRel G F ρ H w)
  {id:Nat} {k k':Blk} {ob:Obj} (hi:H id=some (.blk k)) (hbx:k.bx=false) (hbx':k'.bx=false) (hn:k.n<k'.n) (hw:w'.heap=w.heap.push ob) (hio:IoEq G w w')
  (hO:∀ρ',HKeep w ρ H w' ρ' (upd H id (some (.blk k')))→ρ' id=some w.heap.size→RelO G w' F ρ' (upd H id (some (.blk k'))) id (.blk k')):
  ∃ρ',MRel G F ρ' (upd H id (some (.blk k'))) w'∧Ext G F ρ w F ρ' w'∧HKeep w ρ H w' ρ' (upd H id (some (.blk k')))∧ρ' id=some w.heap.size:=by
 have hsz:w'.heap.size=w.heap.size+1:=by rw[hw];simp
 have hold:∀b,b<w.heap.size→w'.heap[b]? =w.heap[b]? :=fun b hb=>push_old hw hb
 have hwF:∀b,F b→w'.heap[b]? =w.heap[b]? :=fun b hb=>hold b (hm.frz b hb)
 let ρ':=upd ρ id (some w.heap.size)
 have hk:HKeep w ρ H w' ρ' (upd H id (some (.blk k'))):=
  ⟨fun i o h1 h2=>by
   by_cases e:i=id
   ·subst e;rw[hi]at h1;cases h1;simp[HO.box,hbx]at h2
   ·exact⟨o,by rw[upd_other _ _ e];exact h1,h2,upd_other _ _ e⟩,
   fun i k1 h1=>by
   by_cases e:i=id
   ·subst e;rw[hi]at h1;cases h1
    exact⟨k',upd_same _ _ _,hbx'.trans hbx.symm,Nat.le_of_lt hn,fun e=>by omega⟩
   ·exact⟨k1,by rw[upd_other _ _ e];exact h1,rfl,Nat.le_refl _,fun _=>⟨rfl,rfl,.inl rfl,upd_other _ _ e⟩⟩,
   fun b cs ty fz hb=>⟨cs,ty,fz,(hold b (lt_of_some hb)).trans hb,rfl⟩,
   fun i q l v h1=>by
   by_cases e:i=id
   ·subst e;rw[hi]at h1;cases h1
   ·exact⟨q,l,v,by rw[upd_other _ _ e];exact h1,Nat.le_refl _,fun _=>⟨rfl,rfl,upd_other _ _ e,fun b hb=>hold b (hm.lt i b hb)⟩⟩⟩
 refine⟨ρ',⟨fun i o h1=>?_,fun i b hb=>?_,fun i j b h1 h2=>?_,fun i b hb=>?_,fun b hb=>by have:=hm.frz b hb;omega,hm.glob.mono hwF (fun _ h=>h)⟩,
  ⟨hio,by omega,fun b hb _=>hold b hb,hwF,fun _ h=>h,fun _ h=>.inl h,fun i b hb=>?_⟩,hk,upd_same _ _ _⟩
 ·by_cases e:i=id
  ·subst e;rw[upd_same]at h1;cases h1;exact hO ρ' hk (upd_same _ _ _)
  ·rw[upd_other _ _ e]at h1
   exact(hm.heap i o h1).mono hwF (fun _ h=>h) hk (upd_other _ _ e) (fun b hb=>⟨hold b (hm.lt i b hb),fun h=>h⟩)
 ·by_cases e:i=id
  ·subst e;exact⟨_,upd_same _ _ _⟩
  ·obtain⟨o',ho'⟩:=hm.dom i b ((upd_other _ _ e).symm.trans hb)
   exact⟨o',by rw[upd_other _ _ e];exact ho'⟩
 ·by_cases e:i=id<;>by_cases e':j=id
  ·rw[e,e']
  ·subst e
   have h3:some w.heap.size=some b:=(upd_same _ _ _).symm.trans h1
   have h4:=hm.lt j b ((upd_other _ _ e').symm.trans h2)
   cases h3;omega
  ·subst e'
   have h3:some w.heap.size=some b:=(upd_same _ _ _).symm.trans h2
   have h4:=hm.lt i b ((upd_other _ _ e).symm.trans h1)
   cases h3;omega
  ·exact hm.inj i j b ((upd_other _ _ e).symm.trans h1) ((upd_other _ _ e').symm.trans h2)
 ·by_cases e:i=id
  ·subst e
   have h1:some w.heap.size=some b:=(upd_same _ _ _).symm.trans hb
   cases h1;omega
  ·have:=hm.lt i b ((upd_other _ _ e).symm.trans hb);omega
 ·by_cases e:i=id
  ·subst e
   have h1:some w.heap.size=some b:=(upd_same _ _ _).symm.trans hb
   cases h1;exact .inr (Nat.le_refl _)
  ·exact .inl ⟨i,(upd_other _ _ e).symm.trans hb⟩

theorem MRel.freeze {G:GL}{F:Nat→Prop}{ρ:Nat→Option Nat}{H:Nat→Option HO}{w:World}(hm:MRel G F ρ H w)
  {id:Nat} {k:Blk} (hi:H id=some (.blk k)) (hmu:k.mu=true):
  ∃F',MRel G F' ρ (upd H id (some (.blk {k with mu:=false}))) w∧Ext G F ρ w F' ρ w∧HKeep w ρ H w ρ (upd H id (some (.blk {k with mu:=false})))∧(∀b,ρ id=some b→F' b):=by
 let F':Nat→Prop:=fun b=>F b∨ρ id=some b
 have hk:HKeep w ρ H w ρ (upd H id (some (.blk {k with mu:=false}))):=
  ⟨fun i o h1 h2=>by
   by_cases e:i=id
   ·subst e;rw[hi]at h1;cases h1;exact⟨_,upd_same _ _ _,h2,rfl⟩
   ·exact⟨o,by rw[upd_other _ _ e];exact h1,h2,rfl⟩,
   fun i k1 h1=>by
   by_cases e:i=id
   ·subst e;rw[hi]at h1;cases h1
    exact⟨_,upd_same _ _ _,rfl,Nat.le_refl _,fun e=>⟨rfl,rfl,.inl rfl,rfl⟩⟩
   ·exact⟨k1,by rw[upd_other _ _ e];exact h1,rfl,Nat.le_refl _,fun _=>⟨rfl,rfl,.inl rfl,rfl⟩⟩,
   fun b cs ty fz hb=>⟨cs,ty,fz,hb,rfl⟩,
   fun i q l v h1=>by
   by_cases e:i=id
   ·subst e;rw[hi]at h1;cases h1
   ·exact⟨q,l,v,by rw[upd_other _ _ e];exact h1,Nat.le_refl _,fun _=>⟨rfl,rfl,rfl,fun _ _=>rfl⟩⟩⟩
 have hF:∀b,F b→F' b:=fun _ h=>.inl h
 refine⟨F',⟨fun i o h1=>?_,fun i b hb=>?_,hm.inj,hm.lt,fun b hb=>?_,hm.glob.mono (fun _ _=>rfl) hF⟩,
  ⟨IoEq.refl _,Nat.le_refl _,fun _ _ _=>rfl,fun _ _=>rfl,hF,fun b hb=>?_,fun i b hb=>.inl ⟨i,hb⟩⟩,hk,fun b hb=>.inr hb⟩
 ·by_cases e:i=id
  ·subst e;rw[upd_same]at h1;cases h1
   obtain⟨h0,h1|⟨b,h1,h2⟩⟩:=hm.heap i _ hi
   ·exact⟨h0,.inl h1⟩
   ·refine⟨h0,.inr ⟨b,h1,⟨fun hnm=>?_,h2.mp,(fun e=>by cases e),fun _=>.inr h1⟩⟩⟩
    obtain⟨cs,ty,fz,g1,g2,g3,g4⟩:=h2.ex hnm
    exact⟨cs,ty,fz,g1,g2,g3,fun i hi=>by obtain⟨x,p1,p2⟩:=g4 i hi;exact⟨x,p1,p2.mono (fun _ _=>rfl) hF hk⟩⟩
  ·rw[upd_other _ _ e]at h1
   refine(hm.heap i o h1).mono (fun _ _=>rfl) hF hk rfl (fun b hb=>⟨rfl,fun h=>?_⟩)
   rcases h with h|h
   ·exact h
   ·exact absurd (hm.inj i id b hb h) e
 ·obtain⟨o',ho'⟩:=hm.dom i b hb
  by_cases e:i=id
  ·subst e;exact⟨_,upd_same _ _ _⟩
  ·exact⟨o',by rw[upd_other _ _ e];exact ho'⟩
 ·rcases hb with h|h
  ·exact hm.frz b h
  ·exact hm.lt id b h
 ·rcases hb with h|h
  ·exact .inl h
  ·exact .inr (.inr ⟨id,h⟩)

end Go.Ab

/-
 Each operation of the model does what its abstract effect says: values, loads, stores, new blocks.
-/
set_option linter.unusedVariables false
set_option linter.unusedSimpArgs false
namespace Go.Ab
open Go

abbrev SpT:=AV→List AV→Option (List (Nat×HO)×List (Nat×HO)×List Nat)→AV→List Blk→Prop
def Cd.holds (Sp:SpT):Cd→Prop
 |.b x=>x=true
 |.ge g want c=>(negIf (!want) g=true→Cd.holds Sp c)
 |.eqn x y=>x=y
 |.get l i v=>l[i]? =some v
 |.call f args r hs=>Sp (.fn f [] []) args none r hs
 |.callD cv args h v ws al=>Sp cv args (some (h,ws,al)) v []

def AllC (Sp:SpT):List Cd→Prop
 |[]=>True
 |c::r=>c.holds Sp∧AllC Sp r

theorem AllC.app {Sp:SpT}:∀{a b:List Cd},AllC Sp (a++b)→AllC Sp a∧AllC Sp b
 |[],_,h=>⟨trivial,h⟩
 |_::_,_,h=>let ⟨h1,h2⟩:=AllC.app h.2;⟨⟨h.1,h1⟩,h2⟩

def updL (H:Nat→Option HO):List (Nat×HO)→Nat→Option HO
 |[]=>H
 |(i,o)::r=>updL (upd H i (some o)) r

theorem beq_ne {a b:Nat}(h:a≠b):Nat.beq a b=false:=by
 cases e:Nat.beq a b with
 |false=>rfl
 |true=>exact absurd (Nat.eq_of_beq_eq_true e) h
theorem beq_self (a:Nat):Nat.beq a a=true:=Nat.beq_refl a

theorem aget_aset {α:Type}(l:List (Nat×α))(i:Nat)(v:α):aget (aset l i v)=upd (aget l) i (some v):=by
 funext j
 induction l with
 |nil=>
  simp only[aset,aget,upd]
  by_cases h:j=i
  ·subst h;simp[beq_self]
  ·simp[beq_ne (Ne.symm h),h]
 |cons x r ih=>
  obtain⟨k,y⟩:=x
  simp only[aset]
  by_cases hk:k=i
  ·subst hk
   simp only[beq_self,cond_true,aget,upd]
   by_cases h:j=k
   ·subst h;simp[beq_self]
   ·simp[beq_ne (Ne.symm h),h]
  ·simp only[beq_ne hk,cond_false,aget]
   by_cases h:j=k
   ·subst h
    simp[upd,hk,beq_self]
   ·simp only[beq_ne (Ne.symm h),ih,upd,cond_false]
theorem aget_asets:∀(ws:List (Nat×HO)) (l:List (Nat×HO)),aget (asets l ws)=updL (aget l) ws
 |[],l=>rfl
 |(i,o)::r,l=>by simp only[asets,updL];rw[aget_asets r,aget_aset]

def Eff (G:GL)(F:Nat→Prop)(ρ:Nat→Option Nat)(H:Nat→Option HO)(w:World)(r:Result Value)(D:Delta):Prop:=
 ∃x w' F' ρ',r=.ok x w'∧MRel G F' ρ' (updL H D.ws) w'∧Ext G F ρ w F' ρ' w'∧HKeep w ρ H w' ρ' (updL H D.ws)∧RelV w' F' ρ' (updL H D.ws) D.v x

section
variable {P:Program}{G:GL}{F:Nat→Prop}{ρ:Nat→Option Nat}{H:Nat→Option HO}{w:World}{look:Nat→Option HO}
 {Sp:SpT} {D:Delta}

theorem Eff.pure (hm:MRel G F ρ H w){r:Result Value}{x:Value}(hr:r=.ok x w)(hw:D.ws=[])(hv:RelV w F ρ H D.v x):Eff G F ρ H w r D:=by
 refine⟨x,w,F,ρ,hr,?_⟩
 rw[hw]
 exact⟨hm,Ext.refl _ _ _,HKeep.refl _ _ _,hv⟩

theorem Eff.val (hm:MRel G F ρ H w){r:Result Value}{x:Value}{v:AV}{cs:List Cd}(hD:Delta.val v cs=some D)(hr:r=.ok x w)(hv:RelV w F ρ H v x):Eff G F ρ H w r D:=by
 cases hD
 exact Eff.pure hm hr rfl hv

theorem val_cs {v:AV}{cs:List Cd}(h:Delta.val v cs=some D):D.cs=cs:=by cases h;rfl

theorem addr_add (b o j:Nat):(⟨b,o,none⟩:Addr).add j=⟨b,o+j,none⟩:=by
 unfold Addr.add
 split
 ·rename_i h;simp[h]
 ·rfl

theorem blk_cell (hm:MRel G F ρ H w){id b:Nat}{k:Blk}(hi:H id=some (.blk k))(hb:ρ id=some b){i:Nat}(h:i<k.c.size):
  ∃x,w.cell? ⟨b,i,none⟩=some x∧RelV w F ρ H (k.c.getV i) x:=by
 obtain⟨h0,h1|⟨b',h1,h2⟩⟩:=hm.heap id _ hi
 ·rw[hb]at h1;cases h1.2
 ·rw[hb]at h1;cases h1
  obtain⟨cs,ty,fz,g1,g2,g3,g4⟩:=h2.ex (Cont.nmap h)
  obtain⟨x,p1,p2⟩:=g4 i h
  refine⟨x,by simp[World.cell?,g1,p1],?_⟩
  have p2:=p2.1
  cases hc:k.c<;>rw[hc]at p2<;>first|exact p2|exact RelI.toV p2

def Holds (F:Nat→Prop)(ρ:Nat→Option Nat)(H:Nat→Option HO)(w:World)(c:Cont)(b o:Nat):Prop:=
 ∀i,i<c.size→∃x,w.cell? ⟨b,o+i,none⟩=some x∧RelV w F ρ H (c.getV i) x

theorem blk_holds (hm:MRel G F ρ H w){id b:Nat}{k:Blk}(hi:H id=some (.blk k))(hb:ρ id=some b):Holds F ρ H w k.c b 0:=by
 intro i h
 obtain⟨x,h1,h2⟩:=blk_cell hm hi hb h
 exact⟨x,by rw[Nat.zero_add];exact h1,h2⟩

theorem getN_length (c:Cont):∀n i,(c.getN i n).length=n
 |0,_=>rfl
 |n+1,i=>by simp[Cont.getN,getN_length c n (i+1)]

structure TyOk (P:Program)(t:TypeId)(agg:Option Nat):Prop where
 d:∃d,P.underlying t=some d∧(agg.isSome=match d with|.struct _|.array _ _=>true|_=>false)
 sz:∃i,P.info? t=some i∧∀n,agg=some n→i.size=n

theorem run_isAgg {t:TypeId}{agg:Option Nat}(h:TyOk P t agg):(isAgg t).run P w=.ok agg.isSome w:=by
 obtain⟨d,h1,h2⟩:=h.d
 simp only[isAgg,underlying,Sem.run_bind,run_program,Result.andThen_ok,h1]
 rw[h2]
 cases d<;>rfl
theorem run_sizeOf' {t:TypeId}{i:TypeInfo}(h:P.info? t=some i):(sizeOf t).run P w=.ok i.size w:=by
 simp[sizeOf,typeInfo,h]

theorem loadN (c:Cont)(b:Nat):∀(n o s:Nat),(∀i,i<n→∃x,w.cell? ⟨b,o+i,none⟩=some x∧RelV w F ρ H (c.getV (s+i)) x)→
  ∃xs:List Value,xs.length=n∧(∀j v,xs[j]? =some v→w.cell? ⟨b,o+j,none⟩=some v)∧RelVs w F ρ H (Cont.getN c s n) xs
 |0,_,_,_=>⟨[],rfl,by simp,.nil⟩
 |n+1,o,s,hh=>by
  obtain⟨x,h1,h2⟩:=hh 0 (by omega)
  obtain⟨xs,g1,g2,g3⟩:=loadN c b n (o+1) (s+1) (fun i hi=>by
   obtain⟨y,p1,p2⟩:=hh (i+1) (by omega)
   exact⟨y,by rw[show o+1+i=o+(i+1)by omega];exact p1,by rw[show s+1+i=s+(i+1)by omega];exact p2⟩)
  refine⟨x::xs,by simp[g1],?_,.cons _ _ _ _ (by simpa using h2) g3⟩
  intro j v hj
  cases j with
  |zero=>simp at hj;subst hj;simpa using h1
  |succ j=>simp at hj;have:=g2 j v hj;rw[show o+(j+1)=o+1+j by omega];exact this

theorem getAll_spec:∀{vs:List AV} {l:List AV} {off:Nat},AllC Sp (getAll l off vs)→∀i,i<vs.length→l[off+i]? =vs[i]?
 |[],_,_,_,i,h=>by simp at h
 |v::r,l,off,hc,i,h=>by
  cases i with
  |zero=>simpa[Cd.holds]using hc.1
  |succ i=>
   have:=getAll_spec (vs:=r) hc.2 i (by simpa using h)
   rw[show off+(i+1)=off+1+i by omega]
   simpa using this

theorem getN_getD (c:Cont):∀(n off j:Nat),j<n→(c.getN off n).getD j .undef=c.getV (off+j)
 |0,_,_,h=>by omega
 |n+1,off,0,_=>by simp[Cont.getN]
 |n+1,off,j+1,h=>by
  simp only[Cont.getN,List.getD_cons_succ]
  rw[getN_getD c n (off+1) j (by omega)]
  congr 1;omega

theorem getN_cells (pre vs:List AV):Cont.getN (.cells (pre++vs)) pre.length vs.length=vs:=by
 induction vs generalizing pre with
 |nil=>rfl
 |cons v r ih=>
  simp only[List.length_cons,Cont.getN,Cont.getV]
  have:=ih (pre++[v])
  simp at this
  simp[this]

theorem load_cells {b o:Nat}{n:Nat}{t:TypeId}(hT:TyOk P t (some n))(vs:List AV)
  (hx:∀j,j<n→∃x,w.cell? ⟨b,o+j,none⟩=some x∧RelV w F ρ H (vs.getD j .undef) x) (hl:vs.length=n):
  ∃x,(loadVar t ⟨b,o,none⟩).run P w=.ok x w∧RelV w F ρ H (.agg vs) x:=by
 obtain⟨i,hi,hsz⟩:=hT.sz
 have hsz:=hsz n rfl
 obtain⟨xs,g1,g2,g3⟩:=loadN (F:=F) (ρ:=ρ) (H:=H) (w:=w) (.cells vs) b n o 0 (fun i hi=>by simpa[Cont.getV]using hx i hi)
 have hvs:Cont.getN (.cells vs) 0 n=vs:=by rw[← hl];exact getN_cells [] vs
 rw[hvs]at g3
 refine⟨.agg xs.toArray,?_,.agg vs xs.toArray (by simpa using g3)⟩
 simp only[loadVar,Sem.run_bind,run_isAgg hT,Result.andThen_ok,Option.isSome_some,if_true]
 rw[run_sizeOf' hi,Result.andThen_ok,hsz]
 have hl':=run_loadCells_list (P:=P) (w:=w) ⟨b,o,none⟩ xs (fun j v hj=>by rw[addr_add];exact g2 j v hj)
 rw[g1]at hl'
 rw[hl']
 rfl
theorem load_cell {b o:Nat}{t:TypeId}(hT:TyOk P t none){v:AV}(hx:∃x,w.cell? ⟨b,o,none⟩=some x∧RelV w F ρ H v x):
  ∃x,(loadVar t ⟨b,o,none⟩).run P w=.ok x w∧RelV w F ρ H v x:=by
 obtain⟨x,g1,g2⟩:=hx
 refine⟨x,?_,g2⟩
 simp[loadVar,run_isAgg hT,run_load,g1]

def Eff0 (F:Nat→Prop)(ρ:Nat→Option Nat)(H:Nat→Option HO)(w:World)(r:Result Value)(D:Delta):Prop:=∃x,r=.ok x w∧RelV w F ρ H D.v x∧D.ws=[]
theorem Eff0.val {r:Result Value}{x:Value}{v:AV}{cs:List Cd}(hD:Delta.val v cs=some D)(hr:r=.ok x w)(hv:RelV w F ρ H v x):Eff0 F ρ H w r D:=by
 cases hD;exact⟨x,hr,hv,rfl⟩
theorem Eff0.eff {r:Result Value}(hm:MRel G F ρ H w)(h:Eff0 F ρ H w r D):Eff G F ρ H w r D:=by
 obtain⟨x,h1,h2,h3⟩:=h;exact Eff.pure hm h1 h3 h2

theorem loadC_sound (hm:MRel G F ρ H w){d:Dir}{c:Cont}{off:Nat}{agg:Option Nat}{b o:Nat}{t:TypeId}(hh:Holds F ρ H w c b o)(hT:TyOk P t agg)
  (hD:loadC d c off agg=some D) (hc:AllC Sp D.cs):Eff0 F ρ H w ((loadVar t ⟨b,o+off,none⟩).run P w) D:=by
 unfold loadC at hD
 split at hD
 ·rename_i vs _
  unfold loadV at hD
  split at hD
  ·rename_i l hlit
   obtain⟨q1,q2⟩:c.size=l.length∧∀i,c.getV i=l.getD i .undef:=by
    cases c<;>simp only[litC,reduceCtorEq]at hlit<;>cases hlit<;>exact⟨rfl,fun _=>rfl⟩
   split at hD
   ·split at hD
    ·rename_i v _
     have hg:l[off]? =some v:=by have:=val_cs hD;rw[this]at hc;exact hc.1
     obtain⟨h1,h3⟩:=List.getElem?_eq_some_iff.1 hg
     obtain⟨x,g1,g2⟩:=hh off (by rw[q1];exact h1)
     rw[q2]at g2
     obtain⟨y,p1,p2⟩:=load_cell (P:=P) hT (v:=v) ⟨x,g1,by simpa[List.getD,hg]using g2⟩
     exact Eff0.val hD p1 p2
    ·cases hD
   ·rename_i n
    simp only[cond_eq_ite]at hD
    split at hD
    ·rename_i hn
     have hn:vs.length=n:=by simpa using hn
     have hg:=getAll_spec (Sp:=Sp) (vs:=vs) (l:=l) (off:=off) (by have:=val_cs hD;rw[this]at hc;exact hc)
     obtain⟨x,h1,h2⟩:=load_cells (P:=P) (F:=F) (ρ:=ρ) (H:=H) (w:=w) (b:=b) (o:=o+off) hT vs (fun j hj=>by
      have hj':=hg j (by omega)
      have hlt:off+j<l.length:=by
       have:vs[j]? ≠none:=by simp;omega
       rw[← hj']at this
       simpa using this
      obtain⟨x,p1,p2⟩:=hh (off+j) (by rw[q1];exact hlt)
      rw[q2]at p2
      refine⟨x,by rw[Nat.add_assoc];exact p1,?_⟩
      simpa[List.getD,hj']using p2) hn
     exact Eff0.val hD h1 h2
    ·cases hD
  ·cases hD
 ·split at hD
  ·have h1:off<c.size:=by
    have:=val_cs hD;rw[this]at hc
    simpa[AllC,Cd.holds,ltn]using hc
   obtain⟨x,g1,g2⟩:=hh off h1
   obtain⟨y,p1,p2⟩:=load_cell (P:=P) hT ⟨x,g1,g2⟩
   exact Eff0.val hD p1 p2
  ·rename_i n
   have hc':off+n≤c.size:=by
    have:=val_cs hD;rw[this]at hc
    simpa[AllC,Cd.holds,len']using hc
   obtain⟨x,h1,h2⟩:=load_cells (P:=P) (F:=F) (ρ:=ρ) (H:=H) (w:=w) (b:=b) (o:=o+off) hT (c.getN off n) (fun j hj=>by
    obtain⟨x,p1,p2⟩:=hh (off+j) (by omega)
    refine⟨x,by rw[Nat.add_assoc];exact p1,?_⟩
    rw[getN_getD c n off j hj];exact p2) (getN_length c n off)
   exact Eff0.val hD h1 h2

end
end Go.Ab

/-
 Loads, stores, new variables.
-/
set_option linter.unusedVariables false
set_option linter.unusedSimpArgs false
namespace Go.Ab
open Go
section
variable {P:Program}{G:GL}{F:Nat→Prop}{ρ:Nat→Option Nat}{H:Nat→Option HO}{w:World}{look:Nat→Option HO}
 {Sp:SpT} {D:Delta}

theorem opLoad_same (hm:MRel G F ρ H w)(hl:∀id o,look id=some o→H id=some o){v:AV}{x:Value}(hx:RelV w F ρ H v x){d:Dir}{agg:Option Nat}{t:TypeId}(hT:TyOk P t agg)
  (hD:opLoad look d agg v=some D) (hc:AllC Sp D.cs):Eff0 F ρ H w ((Instr.loadAt t x).run P w) D:=by
 have hrun:∀a,(Instr.loadAt t (.pointer (some a))).run P w=(loadVar t a).run P w:=fun a=>by
  simp[Instr.loadAt,Instr.sureAddr]
 unfold opLoad at hD
 split at hD
 ·rename_i id off
  split at hD
  ·rename_i k hk
   have hH:=hl _ _ hk
   cases hx with
   |imm _ _ hi=>cases hi
   |ptr _ _ b o hb hh hbx=>
    rw[hrun]
    have:=loadC_sound (P:=P) hm (blk_holds hm hH hb) hT hD hc
    simpa using this
  ·cases hD
 ·rename_i id n off
  split at hD
  ·rename_i k hk
   have hH:=hl _ _ hk
   split at hD
   ·rename_i r hr
    cases hD
    cases hx with
    |imm _ _ hi=>cases hi
    |ep _ _ _ k' _ hh hle hp hxx=>
     rw[hH]at hh;cases hh
     obtain⟨b,hb,rfl⟩:=hxx hc.1
     rw[hrun]
     obtain⟨x,e1,e2,e3⟩:=loadC_sound (P:=P) hm (blk_holds hm hH hb) hT hr hc.2
     exact⟨x,by simpa using e1,e2,e3⟩
   ·cases hD
  ·cases hD
 ·rename_i c
  cases hx with
  |imm _ _ hi=>
   cases hi with
   |iptr _ b o xs hF hcell hr ho=>
    rw[hrun]
    have hh:Holds F ρ H w c b o:=fun i hi=>⟨xs i,hcell i hi,(hr i hi).toV⟩
    exact loadC_sound (P:=P) (off:=0) hm hh hT hD hc
 ·rename_i id v i
  split at hD
  ·rename_i k l v1 hk
   have hH:=hl _ _ hk
   have h3:=val_cs hD;rw[h3]at hc
   obtain⟨c0,c1,_⟩:=hc
   have c0:v1=v:=c0
   cases hx with
   |imm _ _ hi=>cases hi
   |qe _ _ _ k2 l2 v2 _ hh hle hp hxx=>
    rw[hH]at hh;cases hh
    obtain⟨b,o,cs,ty,fz,q1,q2,rfl,q0,q7⟩:=hxx c0
    rw[hrun]
    obtain⟨x,e1,e2⟩:=load_cell (P:=P) (w:=w) (F:=F) (ρ:=ρ) (H:=H) hT (v:=.int k (l.getD i 0)) (b:=b) (o:=o) ⟨_,by simp only[World.cell?,q2];exact q7,.imm _ _ (.int _ _)⟩
    exact Eff0.val hD e1 e2
  ·cases hD
 ·cases hD

theorem opLoad_sound (hm:MRel G F ρ H w)(hl:∀id o,look id=some o→H id=some o){v:AV}{x:Value}(hx:RelV w F ρ H v x){d:Dir}{agg:Option Nat}{t:TypeId}(hT:TyOk P t agg)
  (hD:opLoad look d agg v=some D) (hc:AllC Sp D.cs):Eff G F ρ H w ((Instr.loadAt t x).run P w) D:=(opLoad_same hm hl hx hT hD hc).eff hm

theorem run_storeCells (b:Nat)(ty:TypeId)(fz:Nat×Nat):∀(vs:List Value) (o i:Nat) (cs:Array Value) (w:World),
  (∀v∈vs,v.oneCell'=true)→w.heap[b]? =some (.cells cs ty fz)→(∀j,j<cs.size→¬ (fz.1≤j∧j<fz.2))→o+i+vs.length≤cs.size→
  ∃w' cs',(storeCells ⟨b,o,none⟩ vs i).run P w=.ok () w'∧w'.heap[b]? =some (.cells cs' ty fz)∧cs'.size=cs.size∧
   (∀j,j<vs.length→cs'[o+i+j]? =vs[j]?)∧(∀j,(j<o+i∨o+i+vs.length≤j)→cs'[j]? =cs[j]?)∧(∀j,j≠b→w'.heap[j]? =w.heap[j]?)∧w'.heap.size=w.heap.size∧IoEq G w w'
 |[],o,i,cs,w,_,hb,_,_=>⟨w,cs,rfl,hb,rfl,fun j h=>by simp at h,fun _ _=>rfl,fun _ _=>rfl,rfl,IoEq.refl _⟩
 |v::r,o,i,cs,w,hone,hb,hfz,hlen=>by
  have hlt:o+i<cs.size:=by simp at hlen;omega
  have hcell:w.cell? ⟨b,o+i,none⟩=some cs[o+i]:=by simp[World.cell?,hb,hlt]
  have hfr:w.frozen? ⟨b,o+i,none⟩=false:=by
   have:=hfz (o+i) hlt
   obtain⟨lo,hi⟩:=fz
   simp only[World.frozen?,hb]
   simp only[not_and,Nat.not_lt]at this
   by_cases h:lo≤o+i
   ·simp[h];omega
   ·simp[h]
  have h1:(store (⟨b,o+i,none⟩:Addr) v).run P w=.ok () (w.setCell ⟨b,o+i,none⟩ v):=by
   rw[run_store P w _ v _ (hone v (by simp)),hcell]
   simp[hfr]
  have hb':(w.setCell ⟨b,o+i,none⟩ v).heap[b]? =some (.cells (cs.setIfInBounds (o+i) v) ty fz):=by
   simp[World.setCell,Array.getElem?_modify,hb]
  obtain⟨w',cs',g1,g2,g3,g4,g5,g6,g7,g8⟩:=run_storeCells b ty fz r o (i+1) (cs.setIfInBounds (o+i) v) _ (fun u hu=>hone u (by simp[hu])) hb' (by simpa using hfz) (by simp at hlen ⊢; omega)
  refine⟨w',cs',?_,g2,by simpa using g3,?_,?_,?_,by simpa using g7,g8⟩
  ·simp only[storeCells,Sem.run_bind,addr_add,h1,Result.andThen_ok]
   exact g1
  ·intro j hj
   cases j with
   |zero=>
    have:=g5 (o+i) (by omega)
    simpa[hlt]using this
   |succ j=>
    have:=g4 j (by simpa using hj)
    rw[show o+i+(j+1)=o+(i+1)+j by omega]
    simpa using this
  ·intro j hj
   have:=g5 j (by simp at hj;omega)
   rw[this,Array.getElem?_setIfInBounds]
   split
   ·rename_i h;simp at hj;omega
   ·rfl
  ·intro j hj
   rw[g6 j hj]
   exact heap_setCell_other w _ j v hj

theorem set1_nmap {c c':Cont}{i:Nat}{v:AV}(h:c.set1 i v=some c'):c.isMap=false:=by
 cases c<;>first|rfl|(cases v<;>cases h)
theorem set1_nmap' {c c':Cont}{i:Nat}{v:AV}(h:c.set1 i v=some c'):c'.isMap=false:=by
 cases c<;>cases v<;>simp only[Cont.set1,reduceCtorEq,cond_eq_ite]at h<;>first|(cases h;rfl)|(split at h<;>cases h;rfl)
theorem setL_nmap:∀{l:List AV} {c c':Cont} {i:Nat},c.isMap=false→c.setL i l=some c'→c'.isMap=false
 |[],c,c',i,hc,h=>by cases h;exact hc
 |v::r,c,c',i,hc,h=>by
  simp only[Cont.setL]at h
  split at h
  ·rename_i c1 h1;exact setL_nmap (set1_nmap' h1) h
  ·cases h
theorem set1_spec {c c':Cont}{i:Nat}{v:AV}(h:c.set1 i v=some c'):c'.size=c.size∧
  (∀j y,j≠i→RelE w F ρ H c j y→RelE w F ρ H c' j y)∧(∀y,i<c.size→RelV w F ρ H v y→y.oneCell'=true→RelE w F ρ H c' i y):=by
 cases c with
 |ints k l=>
  cases v<;>simp only[Cont.set1,reduceCtorEq]at h
  case int k' n=>
   simp only[cond_eq_ite]at h
   split at h
   ·rename_i hk
    cases h
    have hk:k=k':=by simpa[beqK]using hk
    subst hk
    refine⟨by simp[Cont.size],fun j y hj hr=>?_,fun y hi hr hone=>?_⟩
    ·simp only[RelE,Cont.getV]at hr ⊢
     rw[show(l.set i n).getD j 0=l.getD j 0 by simp[List.getD,List.getElem?_set_ne (Ne.symm hj)]]
     exact hr
    ·simp only[Cont.size]at hi
     simp only[RelE,Cont.getV]
     rw[show(l.set i n).getD i 0=n by simp[List.getD,hi]]
     have:=hr.ints;subst this
     exact⟨.int k n,rfl⟩
   ·cases h
 |bools l=>
  cases v<;>simp only[Cont.set1,reduceCtorEq]at h
  case bool b=>
   cases h
   refine⟨by simp[Cont.size],fun j y hj hr=>?_,fun y hi hr hone=>?_⟩
   ·simp only[RelE,Cont.getV]at hr ⊢
    rw[show(l.set i b).getD j false=l.getD j false by simp[List.getD,List.getElem?_set_ne (Ne.symm hj)]]
    exact hr
   ·simp only[Cont.size]at hi
    simp only[RelE,Cont.getV]
    rw[show(l.set i b).getD i false=b by simp[List.getD,hi]]
    have:=hr.bools;subst this
    exact⟨.bool b,rfl⟩
 |strs l=>
  cases v<;>simp only[Cont.set1,reduceCtorEq]at h
  case str s=>
   cases h
   refine⟨by simp[Cont.size],fun j y hj hr=>?_,fun y hi hr hone=>?_⟩
   ·simp only[RelE,Cont.getV]at hr ⊢
    rw[show(l.set i s).getD j []=l.getD j []by simp[List.getD,List.getElem?_set_ne (Ne.symm hj)]]
    exact hr
   ·simp only[Cont.size]at hi
    simp only[RelE,Cont.getV]
    rw[show(l.set i s).getD i []=s by simp[List.getD,hi]]
    obtain⟨bs,rfl,hs⟩:=hr.strs
    exact⟨.str s bs hs,rfl⟩
 |vals l=>
  cases v<;>simp only[Cont.set1,reduceCtorEq]at h
  case int k n=>
   cases h
   refine⟨by simp[Cont.size],fun j y hj hr=>?_,fun y hi hr hone=>?_⟩
   ·simp only[RelE,Cont.getV]at hr ⊢
    rw[show(l.set i (AV.int k n)).getD j .undef=l.getD j .undef by simp[List.getD,List.getElem?_set_ne (Ne.symm hj)]]
    exact hr
   ·simp only[Cont.size]at hi
    simp only[RelE,Cont.getV]
    rw[show(l.set i (AV.int k n)).getD i .undef=AV.int k n by simp[List.getD,hi]]
    have:=hr.ints;subst this
    exact⟨.int k n,rfl⟩
  case bool b=>
   cases h
   refine⟨by simp[Cont.size],fun j y hj hr=>?_,fun y hi hr hone=>?_⟩
   ·simp only[RelE,Cont.getV]at hr ⊢
    rw[show(l.set i (AV.bool b)).getD j .undef=l.getD j .undef by simp[List.getD,List.getElem?_set_ne (Ne.symm hj)]]
    exact hr
   ·simp only[Cont.size]at hi
    simp only[RelE,Cont.getV]
    rw[show(l.set i (AV.bool b)).getD i .undef=AV.bool b by simp[List.getD,hi]]
    have:=hr.bools;subst this
    exact⟨.bool b,rfl⟩
  case str s=>
   cases h
   refine⟨by simp[Cont.size],fun j y hj hr=>?_,fun y hi hr hone=>?_⟩
   ·simp only[RelE,Cont.getV]at hr ⊢
    rw[show(l.set i (AV.str s)).getD j .undef=l.getD j .undef by simp[List.getD,List.getElem?_set_ne (Ne.symm hj)]]
    exact hr
   ·simp only[Cont.size]at hi
    simp only[RelE,Cont.getV]
    rw[show(l.set i (AV.str s)).getD i .undef=AV.str s by simp[List.getD,hi]]
    obtain⟨bs,rfl,hs⟩:=hr.strs
    exact⟨.str s bs hs,rfl⟩
  case imm c n cap=>
   cases h
   refine⟨by simp[Cont.size],fun j y hj hr=>?_,fun y hi hr hone=>?_⟩
   ·simp only[RelE,Cont.getV]at hr ⊢
    rw[show(l.set i (AV.imm c n cap)).getD j .undef=l.getD j .undef by simp[List.getD,List.getElem?_set_ne (Ne.symm hj)]]
    exact hr
   ·simp only[Cont.size]at hi
    simp only[RelE,Cont.getV]
    rw[show(l.set i (AV.imm c n cap)).getD i .undef=AV.imm c n cap by simp[List.getD,hi]]
    cases hr with|imm _ _ hr=>exact⟨hr,hone⟩
  case nils=>
   cases h
   refine⟨by simp[Cont.size],fun j y hj hr=>?_,fun y hi hr hone=>?_⟩
   ·simp only[RelE,Cont.getV]at hr ⊢
    rw[show(l.set i AV.nils).getD j .undef=l.getD j .undef by simp[List.getD,List.getElem?_set_ne (Ne.symm hj)]]
    exact hr
   ·simp only[Cont.size]at hi
    simp only[RelE,Cont.getV]
    rw[show(l.set i AV.nils).getD i .undef=AV.nils by simp[List.getD,hi]]
    cases hr with|imm _ _ hr=>exact⟨hr,hone⟩
 |maps kk vk es ck=>cases v<;>cases h
 |cells l=>
  have h:some (Cont.cells (l.set i v))=some c':=by cases v<;>exact h
  cases h
  refine⟨by simp[Cont.size],fun j y hj hr=>?_,fun y hi hr hone=>?_⟩
  ·simp only[RelE]at hr ⊢
   rw[show(l.set i v).getD j .undef=l.getD j .undef by simp[List.getD,List.getElem?_set_ne (Ne.symm hj)]]
   exact hr
  ·simp only[Cont.size]at hi
   simp only[RelE]
   rw[show(l.set i v).getD i .undef=v by simp[List.getD,hi]]
   exact⟨hr,hone⟩

theorem setL_spec:∀{vs:List AV} {c c':Cont} {i:Nat},c.setL i vs=some c'→i+vs.length≤c.size→c'.size=c.size∧
  (∀j y,(j<i∨i+vs.length≤j)→RelE w F ρ H c j y→RelE w F ρ H c' j y)∧
  (∀j y v,vs[j]? =some v→RelV w F ρ H v y→y.oneCell'=true→RelE w F ρ H c' (i+j) y)
 |[],c,c',i,h,_=>by cases h;exact⟨rfl,fun _ _ _ h=>h,fun j y v h=>by simp at h⟩
 |v::r,c,c',i,h,hlen=>by
  simp only[Cont.setL]at h
  split at h
  ·rename_i c1 h1
   obtain⟨g1,g2,g3⟩:=set1_spec (w:=w) (F:=F) (ρ:=ρ) (H:=H) h1
   obtain⟨p1,p2,p3⟩:=setL_spec (vs:=r) h (by simp at hlen;omega)
   refine⟨p1.trans g1,fun j y hj hr=>?_,fun j y u hj hr hone=>?_⟩
   ·exact p2 j y (by simp at hj;omega) (g2 j y (by simp at hj;omega) hr)
   ·cases j with
    |zero=>
     simp at hj;subst hj
     exact p2 i y (by omega) (g3 y (by simp at hlen;omega) hr hone)
    |succ j=>
     rw[show i+(j+1)=i+1+j by omega]
     exact p3 j y u (by simpa using hj) hr hone
  ·cases h

theorem RelV.one {v:AV}{x:Value}(hr:RelV w F ρ H v x)(hv:v.cell=true):x.oneCell'=true:=by
 cases hr with
 |imm _ _ hi=>cases hi<;>first|rfl|(simp[AV.cell]at hv)
 |ep _ _ _ _ _ _ _ hp _=>obtain⟨_,rfl⟩:=hp;rfl
 |full _ _ _ _ _ _ hp _=>obtain⟨_,_,_,rfl⟩:=hp;rfl
 |vw _ _ _ _ _ _ _ _ _ hp _=>obtain⟨_,_,_,rfl⟩:=hp;rfl
 |qu _ _ _ _ _ _ _ _ _ hp _=>obtain⟨_,_,_,rfl⟩:=hp;rfl
 |qe _ _ _ _ _ _ _ _ _ hp _=>obtain⟨_,rfl⟩:=hp;rfl
 |_=>first|rfl|(simp[AV.cell]at hv)

theorem RelVs.ones:∀{l:List AV} {xs:List Value},RelVs w F ρ H l xs→allCell l=true→∀x∈xs,x.oneCell'=true
 |_,_,.nil,_,x,h=>by simp at h
 |_,_,.cons v l y ys hv hs,ha,x,h=>by
  simp[allCell]at ha
  simp at h
  rcases h with rfl|h
  ·exact hv.one ha.1
  ·exact hs.ones ha.2 x h

theorem RelVs.get:∀{l:List AV} {xs:List Value},RelVs w F ρ H l xs→∀{j:Nat} {v:AV},l[j]? =some v→∃x,xs[j]? =some x∧RelV w F ρ H v x
 |_,_,.nil,j,v,h=>by simp at h
 |_,_,.cons u l y ys hv hs,j,v,h=>by
  cases j with
  |zero=>simp at h;subst h;exact⟨y,by simp,hv⟩
  |succ j=>obtain⟨x,h1,h2⟩:=hs.get (by simpa using h);exact⟨x,by simpa using h1,h2⟩

theorem allCell_cs {v:AV}(h:allCell v.cs=true):(∀b u,v≠ .may b u)∧v≠ .undef:=by
 refine⟨fun b u e=>?_,fun e=>?_⟩<;>subst e<;>simp[AV.cs,allCell,AV.cell]at h

theorem store_sound (hm:MRel G F ρ H w){id b off:Nat}{k:Blk}{c:Cont}{v:AV}{x:Value}{t:TypeId}{i:TypeInfo}(hH:H id=some (.blk k))(hb:ρ id=some b)(hmu:k.mu=true)
  (hx:RelV w F ρ H v x) (hi:P.info? t=some i) (hall:allCell v.cs=true) (hlen:v.cs.length=i.size) (hc:k.c.setL off v.cs=some c) (hsz:off+i.size≤k.c.size):
  ∃w',(storeVar t ⟨b,off,none⟩ x).run P w=.ok () w'∧MRel G F ρ (upd H id (some (.blk {k with c}))) w'∧Ext G F ρ w F ρ w'∧HKeep w ρ H w' ρ (upd H id (some (.blk {k with c}))):=by
 obtain⟨hnd,hund⟩:=allCell_cs hall
 have hcs:=hx.csOf hnd hund
 have hl:x.cells.toList.length=i.size:=by rw[← hcs.len,hlen]
 obtain⟨h0,h1|⟨b',h1,h2⟩⟩:=hm.heap id _ hH
 ·rw[hb]at h1;cases h1.2
 rw[hb]at h1;cases h1
 by_cases hmap:k.c.isMap=true
 ·have h0:v.cs=[]:=by
   cases hvc:v.cs with
   |nil=>rfl
   |cons u r=>
    rw[hvc]at hc
    simp only[Cont.setL]at hc
    split at hc
    ·rename_i c1 h1;rw[set1_nmap h1]at hmap;cases hmap
    ·cases hc
  rw[h0]at hc hlen hcs
  cases hc
  have hxc:x.cells.toList=[]:=by cases e:x.cells.toList with
   |nil=>rfl
   |cons a r=>rw[e]at hl;simp at hl;simp at hlen;omega
  have hu:upd H id (some (.blk {k with c:=k.c}))=H:=by
   funext j
   by_cases e:j=id
   ·subst e;rw[upd_same];exact hH.symm
   ·rw[upd_other _ _ e]
  refine⟨w,?_,by rw[hu];exact hm,Ext.refl _ _ _,by rw[hu];exact HKeep.refl _ _ _⟩
  have:x.cells.size=i.size:=by simpa using hl
  simp only[storeVar,Sem.run_bind,run_sizeOf' hi,Result.andThen_ok,this,ne_eq,not_true_eq_false,if_false,hxc,storeCells]
  rfl
 have hnm:k.c.isMap=false:=by simpa using hmap
 obtain⟨cs,ty,fz,g1,g2,g3,g4⟩:=h2.ex hnm
 obtain⟨w',cs',p1,p2,p3,p4,p5,p6,p7,p8⟩:=run_storeCells (G:=G) (P:=P) b ty fz x.cells.toList off 0 cs w (hcs.ones hall) g1 (fun j _=>g2 j) (by rw[hl];omega)
 obtain⟨s1,s2,s3⟩:=setL_spec (w:=w) (F:=F) (ρ:=ρ) (H:=H) hc (by omega)
 have hF:¬ F b:=h2.mu hmu
 refine⟨w',?_,?_⟩
 ·have:x.cells.size=i.size:=by simpa using hl
  simp only[storeVar,Sem.run_bind,run_sizeOf' hi,Result.andThen_ok,this,ne_eq,not_true_eq_false,if_false]
  exact p1
 ·refine hm.write hH hb hF p2 p6 p7 p8 (fun cs0 ty0 fz0 h=>?_) rfl (fun k0 h=>?_) (fun hk=>?_)
  ·rw[g1]at h;cases h;exact⟨cs',ty,fz,rfl,p3⟩
  ·cases h;exact⟨_,rfl,Nat.le_refl _,fun _=>⟨rfl,rfl,.inl rfl⟩⟩
  ·refine⟨s1.trans h0,.inr ⟨b,hb,RelB.ofCells (setL_nmap hnm hc) ⟨cs',ty,fz,p2,g2,by rw[p3];exact Nat.le_trans (Nat.le_of_eq s1) g3,fun j hj=>?_⟩ (fun _=>hF) (fun e=>by simp[hmu]at e)⟩⟩
   have hwF:∀b,F b→w'.heap[b]? =w.heap[b]? :=fun j hj=>p6 j (fun e=>hF (e▸hj))
   have hj':j<k.c.size:=by rw[← s1];exact hj
   by_cases hin:off≤j∧j<off+v.cs.length
   ·have hjv:(v.cs)[j-off]? =some ((v.cs)[j-off]'(by omega)):=List.getElem?_eq_getElem (by omega)
    obtain⟨y,q1,q2⟩:=hcs.get hjv
    refine⟨y,?_,(s3 (j-off) y _ hjv q2 (hcs.ones hall y (List.mem_of_getElem? q1))|>fun h=>by rw[show off+(j-off)=j by omega]at h;exact h.mono hwF (fun _ h=>h) hk)⟩
    have:=p4 (j-off) (by rw[hl];omega)
    rw[show off+0+(j-off)=j by omega]at this
    rw[this,q1]
   ·obtain⟨y,q1,q2⟩:=g4 j hj'
    refine⟨y,?_,(s2 j y (by omega) q2).mono hwF (fun _ h=>h) hk⟩
    rw[p5 j (by rw[hl,← hlen];omega)]
    exact q1

theorem opStore_sound (hm:MRel G F ρ H w)(hl:∀id o,look id=some o→H id=some o){a v:AV}{p x:Value}(hp:RelV w F ρ H a p)(hx:RelV w F ρ H v x){sz:Nat}{t:TypeId}{i:TypeInfo}
  (hi:P.info? t=some i) (hsz:i.size=sz) (hD:opStore look sz a v=some D) (hc:AllC Sp D.cs):
  Eff G F ρ H w (((Instr.storeAt t p x).run P w).andThen fun _ w'=>.ok undef w') D:=by
 have hrun:∀a,(Instr.storeAt t (.pointer (some a)) x).run P w=(storeVar t a x).run P w:=fun a=>by
  simp[Instr.storeAt,Instr.sureAddr]
 unfold opStore at hD
 split at hD
 ·rename_i id off
  split at hD
  ·rename_i k hk
   have hH:=hl _ _ hk
   simp only[cond_eq_ite]at hD
   split at hD
   ·rename_i hcond
    simp only[Bool.and_eq_true]at hcond
    obtain⟨hmu,hall,hlen⟩:=hcond
    have hlen:v.cs.length=sz:=Nat.eq_of_beq_eq_true hlen
    split at hD
    ·rename_i c hset
     cases hD
     cases hp with
     |imm _ _ hi=>cases hi
     |ptr _ _ b o hb hh hbx=>
      have hle:off+sz≤k.c.size:=by simpa[AllC,Cd.holds,len']using hc
      obtain⟨w',p1,p2,p3,p4⟩:=store_sound (P:=P) hm hH hb hmu hx hi hall (by omega) hset (by omega)
      rw[hrun,p1]
      exact⟨undef,w',F,ρ,rfl,p2,p3,p4,.imm _ _ (.undef _)⟩
    ·cases hD
   ·cases hD
  ·cases hD
 ·rename_i id n off
  split at hD
  ·rename_i k hk
   have hH:=hl _ _ hk
   simp only[cond_eq_ite]at hD
   split at hD
   ·rename_i hcond
    simp only[Bool.and_eq_true]at hcond
    obtain⟨hmu,hall,hlen⟩:=hcond
    have hlen:v.cs.length=sz:=Nat.eq_of_beq_eq_true hlen
    split at hD
    ·rename_i c hset
     cases hD
     cases hp with
     |imm _ _ hi=>cases hi
     |ep _ _ _ k' _ hh hle hpp hxx=>
      rw[hH]at hh;cases hh
      obtain⟨b,hb,rfl⟩:=hxx hc.1
      have hle:off+sz≤k.c.size:=by simpa[AllC,Cd.holds,len']using hc.2
      obtain⟨w',p1,p2,p3,p4⟩:=store_sound (P:=P) hm hH hb hmu hx hi hall (by omega) hset (by omega)
      rw[hrun,p1]
      exact⟨undef,w',F,ρ,rfl,p2,p3,p4,.imm _ _ (.undef _)⟩
    ·cases hD
   ·cases hD
  ·cases hD
 ·cases hD

theorem opNew_al {site:Nat}{z:Cont}{n sz:Nat}(hD:opNew site z n sz=some D):site∈D.al:=by
 unfold opNew at hD
 rw[cond_eq_ite]at hD
 split at hD
 ·cases hD;simp
 ·cases hD
theorem opNew_sound {n sz:Nat}(hm:MRel G F ρ H w){site:Nat}{z:Cont}{cells:Array Value}{t:TypeId}(hs:H site=none)(hsz:z.size≤cells.size)
  (hz:∀i,i<z.size→∃x,cells[i]? =some x∧RelE w F ρ H z i x) (hD:opNew site z n sz=some D):
  Eff G F ρ H w (((newRow t cells).run P w).andThen fun a w'=>.ok (.pointer (some a)) w') D:=by
 unfold opNew at hD
 rw[cond_eq_ite]at hD
 split at hD
 case isFalse=>cases hD
 rename_i hn
 rw[Bool.and_eq_true,Bool.not_eq_true']at hn
 have hn:=And.intro (Nat.eq_of_beq_eq_true hn.1) hn.2
 cases hD
 have hrun:((newRow t cells).run P w).andThen (fun a w'=>Result.ok (Value.pointer (some a)) w')=.ok (.pointer (some ⟨w.heap.size,0,none⟩)) (w.alloc (.cells cells t)):=by
  simp[newRow]
 obtain⟨ρ',h1,h2,h3,h4,h5⟩:=hm.alloc (w':=w.alloc (.cells cells t)) (site:=site) (o:=.blk {c:=z,sz:=sz,n:=n,cap:=none,nil:=some false,mu:=true,bx:=true}) hs rfl ⟨rfl,rfl,fun _=>⟨rfl,Nat.le_refl _⟩⟩ (fun ρ' H' hk hρ=>by
  refine⟨hn.1,.inr ⟨w.heap.size,hρ,RelB.ofCells hn.2 ⟨cells,t,(0,0),push_new rfl,by simp,hsz,fun i hi=>?_⟩ (fun _ h=>absurd (hm.frz _ h) (Nat.lt_irrefl _)) (fun e=>by cases e)⟩⟩
  obtain⟨x,g1,g2⟩:=hz i hi
  exact⟨x,g1,g2.mono (fun b hb=>push_old rfl (hm.frz b hb)) (fun _ h=>h) hk⟩)
 exact⟨_,_,F,ρ',hrun,h1,h2,h3,.ptr site 0 _ _ h4 (upd_same _ _ _) rfl⟩

end
end Go.Ab

/-
 Operations that only compute.
-/
set_option linter.unusedVariables false
set_option linter.unusedSimpArgs false
namespace Go.Ab
open Go
section
variable {P:Program}{F:Nat→Prop}{ρ:Nat→Option Nat}{H:Nat→Option HO}{w:World}{look:Nat→Option HO}
 {Sp:SpT} {D:Delta}

def Gives (F:Nat→Prop)(ρ:Nat→Option Nat)(H:Nat→Option HO)(w:World)(r:Result Value)(D:Delta):Prop:=
 ∃x,r=.ok x w∧RelV w F ρ H D.v x∧D.ws=[]∧D.al=[]

theorem Gives.val {r:Result Value}{x:Value}{v:AV}{cs:List Cd}(hD:Delta.val v cs=some D)(hr:r=.ok x w)(hv:RelV w F ρ H v x):Gives F ρ H w r D:=by
 cases hD;exact⟨x,hr,hv,rfl,rfl⟩

theorem RelV.mayInv {b:Bool}{v:AV}{x:Value}(hr:RelV w F ρ H (.may b v) x)(hb:b=true):RelV w F ρ H v x:=by
 cases hr with
 |imm _ _ hi=>cases hi with|may _ _ _ h _=>exact(h hb).toV
 |may _ _ _ h _=>exact h hb
theorem RelV.mayNot {b:Bool}{v:AV}{x:Value}(hr:RelV w F ρ H (.may b v) x)(hb:b=false):x=undef:=by
 cases hr with
 |imm _ _ hi=>cases hi with|may _ _ _ _ h=>exact h hb
 |may _ _ _ _ h=>exact h hb

theorem relBool (b:Bool):RelV w F ρ H (.bool b) (.bool b):=.imm _ _ (.bool b)
theorem relInt (k:IntKind)(n:Int):RelV w F ρ H (.int k n) (.int k n):=.imm _ _ (.int k n)
theorem relStr (l:List UInt8)(s:ByteArray)(h:s.data.toList=l):RelV w F ρ H (.str l) (.string s):=.imm _ _ (.str l s h)

theorem gval_ok:∀(f:Nat) {v:AV} {x:Value} {d b:Bool},gval f v=some (d,b)→RelV w F ρ H v x→(d=true→x=.bool b)∧(d=false→x=undef):=by
 intro f
 induction f with
 |zero=>intro v x d b h;cases h
 |succ f ih=>
  intro v x d b h hr
  simp only[gval]at h
  split at h
  ·rename_i b'
   cases h
   exact⟨fun _=>hr.bools,fun e=>by cases e⟩
  ·rename_i g u
   split at h
   ·rename_i d' b' hu
    cases h
    cases hg:g with
    |false=>subst hg;exact⟨fun e=>by simp at e,fun _=>hr.mayNot rfl⟩
    |true=>
     subst hg
     have:=ih hu (hr.mayInv rfl)
     simpa using this
   ·cases h
  ·cases h
theorem pval_ok {v:AV}{x:Value}{d b:Bool}(h:pval v=some (d,b))(hr:RelV w F ρ H v x)(hd:d=true):x=.bool b:=by
 unfold pval at h
 split at h
 ·cases h;cases hd
 ·exact(gval_ok 8 h hr).1 hd
theorem mkMay_rel {e:Bool}{v:AV}{x:Value}(h1:e=true→RelV w F ρ H v x)(h0:e=false→x=undef):RelV w F ρ H (mkMay e v) x:=by
 unfold mkMay
 split
 ·rename_i g u
  refine .may _ _ _ (fun h=>?_) (fun h=>?_)
  ·rw[Bool.and_eq_true]at h
   exact(h1 h.1).mayInv h.2
  ·cases he:e with
   |false=>exact h0 he
   |true=>rw[he]at h;exact(h1 he).mayNot (by simpa using h)
 ·exact .may _ _ _ h1 h0
theorem opPick_sound {c x y:AV}{cv xv yv:Value}(hc:RelV w F ρ H c cv)(hx:RelV w F ρ H x xv)(hy:RelV w F ρ H y yv)
  (hD:opPick c x y=some D) (hcs:AllC Sp D.cs):Gives F ρ H w ((do pure (if ← asBool cv then xv else yv):Sem Value).run P w) D:=by
 unfold opPick at hD
 split at hD
 ·rename_i dc c dx x dy y h1 h2 h3
  have hcs':=val_cs hD
  rw[hcs']at hcs
  obtain⟨g1,g2,_⟩:=hcs
  have:=(gval_ok 8 h1 hc).1 g1;subst this
  have hrun:((do pure (if ← asBool (.bool c)then xv else yv):Sem Value).run P w)=.ok (if c then xv else yv) w:=by simp[asBool]
  rw[hrun]
  refine Gives.val hD rfl ?_
  cases c
  ·have:=pval_ok h3 hy g2;subst this
   exact relBool _
  ·have:=pval_ok h2 hx g2;subst this
   exact relBool _
 ·cases hD

theorem opPickD_sound {d:Dir}{c x y:AV}{cv xv yv:Value}(hc:RelV w F ρ H c cv)(hx:RelV w F ρ H x xv)(hy:RelV w F ρ H y yv)
  (hD:opPickD d c x y=some D) (hcs:AllC Sp D.cs):Gives F ρ H w ((do pure (if ← asBool cv then xv else yv):Sem Value).run P w) D:=by
 unfold opPickD at hD
 split at hD
 ·rename_i b
  split at hD
  ·rename_i dc c dx x' h1 h2
   have hcs':=val_cs hD
   rw[hcs']at hcs
   obtain⟨g1,g2,g3,_⟩:=hcs
   have:=(gval_ok 8 h1 hc).1 g1;subst this
   have hrun:((do pure (if ← asBool (.bool c)then xv else yv):Sem Value).run P w)=.ok (if c then xv else yv) w:=by simp[asBool]
   rw[hrun]
   have hb:c=b:=by have:negIf (!b) c=true:=g2;cases b<;>cases c<;>simp_all [negIf]
   subst hb
   refine Gives.val hD rfl ?_
   cases c
   ·have:=pval_ok h2 hy g3;subst this
    exact relBool _
   ·have:=pval_ok h2 hx g3;subst this
    exact relBool _
  ·cases hD
 ·exact opPick_sound hc hx hy hD hcs

theorem wrap_inR {k:IntKind}{n:Int}(h:inR k n=true):k.wrap n=n:=by
 have h:k.min≤n∧n≤k.max:=by simpa[inR]using h
 cases k<;>simp only[IntKind.min,IntKind.max,IntKind.signed,IntKind.bits,if_true,Bool.false_eq_true,if_false]at h
 ·exact IntWalk.i8_in n (by omega)
 ·exact IntWalk.i16_in n (by omega)
 ·exact IntWalk.i32_in n (by omega)
 ·exact IntWalk.i64_in n (by omega)
 ·exact IntWalk.u8_in n (by omega)
 ·exact IntWalk.u16_in n (by omega)
 ·exact IntWalk.u32_in n (by omega)
 ·exact IntWalk.u64_in n (by omega)

theorem intRes_sound {d:Dir}{k:IntKind}{n:Int}{cs:List Cd}(hD:intRes d k n cs=some D)(hcs:AllC Sp D.cs):Gives F ρ H w (.ok (.int k (k.wrap n)) w) D:=by
 unfold intRes at hD
 split at hD
 ·exact Gives.val hD rfl (relInt _ _)
 ·exact Gives.val hD rfl (relInt _ _)
 ·have h:inR k n=true:=by have:=val_cs hD;rw[this]at hcs;exact hcs.1
  rw[wrap_inR h]
  exact Gives.val hD rfl (relInt _ _)
theorem intRes_cs {d:Dir}{k:IntKind}{n:Int}{cs:List Cd}(hD:intRes d k n cs=some D)(hcs:AllC Sp D.cs):AllC Sp cs:=by
 unfold intRes at hD
 split at hD
 ·have:=val_cs hD;rw[this]at hcs;exact hcs
 ·have:=val_cs hD;rw[this]at hcs;exact hcs
 ·have:=val_cs hD;rw[this]at hcs;exact hcs.2

theorem run_eqGuard_int (op:BinOp)(t:TypeId)(o1 o2:Operand)(k k':IntKind)(a b:Int):(eqGuard op t o1 o2 (.int k a) (.int k' b)).run P w=.ok () w:=by
 unfold eqGuard;cases op<;>rfl
theorem run_eqGuard_str (op:BinOp)(t:TypeId)(o1 o2:Operand)(a b:ByteArray):(eqGuard op t o1 o2 (.string a) (.string b)).run P w=.ok () w:=by
 unfold eqGuard;cases op<;>rfl
theorem run_eqGuard_bool (op:BinOp)(t:TypeId)(o1 o2:Operand)(a b:Bool):(eqGuard op t o1 o2 (.bool a) (.bool b)).run P w=.ok () w:=by
 unfold eqGuard;cases op<;>rfl

theorem binI_sound {d:Dir}{op:BinOp}{k:IntKind}{a b:Int}{t:TypeId}(h1:op≠ .shl)(h2:op≠ .shr)(hD:binI d op k a b=some D)(hcs:AllC Sp D.cs):
  Gives F ρ H w ((binOp op t (.int k a) (.int k b)).run P w) D:=by
 unfold binI at hD
 cases op
 case shl=>exact absurd rfl h1
 case shr=>exact absurd rfl h2
 case add=>
  have:(binOp .add t (.int k a) (.int k b)).run P w=.ok (.int k (k.wrap (a+b))) w:=by simp[binOp,Op.intArith]
  rw[this];exact intRes_sound hD hcs
 case sub=>
  have:(binOp .sub t (.int k a) (.int k b)).run P w=.ok (.int k (k.wrap (a-b))) w:=by simp[binOp,Op.intArith]
  rw[this];exact intRes_sound hD hcs
 case mul=>
  have:(binOp .mul t (.int k a) (.int k b)).run P w=.ok (.int k (k.wrap (a*b))) w:=by simp[binOp,Op.intArith]
  rw[this];exact intRes_sound hD hcs
 case quo=>
  have hb:(b==0)=false:=by have:=intRes_cs hD hcs;simpa[AllC,Cd.holds]using this
  have hb:b≠0:=by simpa using hb
  have:(binOp .quo t (.int k a) (.int k b)).run P w=.ok (.int k (k.wrap (a.tdiv b))) w:=by simp[binOp,Op.intDiv,hb]
  rw[this];exact intRes_sound hD hcs
 case rem=>
  have hb:(b==0)=false:=by have:=val_cs hD;rw[this]at hcs;simpa[AllC,Cd.holds]using hcs
  have hb:b≠0:=by simpa using hb
  have:(binOp .rem t (.int k a) (.int k b)).run P w=.ok (.int k (a.tmod b)) w:=by simp[binOp,Op.intDiv,hb]
  rw[this];exact Gives.val hD rfl (relInt _ _)
 case and=>exact Gives.val hD (by simp[binOp,Op.intBits,bitI]) (relInt _ _)
 case or=>exact Gives.val hD (by simp[binOp,Op.intBits,bitI]) (relInt _ _)
 case xor=>exact Gives.val hD (by simp[binOp,Op.intBits,bitI]) (relInt _ _)
 case andNot=>exact Gives.val hD (by simp[binOp,Op.intBits,bitI]) (relInt _ _)
 case eql=>exact Gives.val hD (by simp[binOp,Op.intCmp]) (relBool _)
 case neq=>exact Gives.val hD (by simp[binOp,Op.intCmp]) (relBool _)
 case lss=>exact Gives.val hD (by simp[binOp,Op.intCmp,ltb]) (relBool _)
 case leq=>exact Gives.val hD (by simp[binOp,Op.intCmp,leb]) (relBool _)
 case gtr=>exact Gives.val hD (by simp[binOp,Op.intCmp,ltb]) (relBool _)
 case geq=>exact Gives.val hD (by simp[binOp,Op.intCmp,leb]) (relBool _)

theorem binS_sound {op:BinOp}{a b:List UInt8}{s r:ByteArray}{t:TypeId}(hs:s.data.toList=a)(hr:r.data.toList=b)(hD:binS op a b=some D)(hcs:AllC Sp D.cs):
  Gives F ρ H w ((binOp op t (.string s) (.string r)).run P w) D:=by
 subst hs hr
 have e1:=ByteArray.toList_eq s
 have e2:=ByteArray.toList_eq r
 unfold binS at hD
 cases op
 case add=>
  have hsz:s.data.toList.length+r.data.toList.length≤9223372036854775807:=by
   have:=val_cs hD;rw[this]at hcs
   have h1:=hcs.1
   simp only[Cd.holds,len',decide_eq_true_eq]at h1
   exact h1
  have hs1:s.size=s.data.toList.length:=(Array.length_toList).symm
  have hr1:r.size=r.data.toList.length:=(Array.length_toList).symm
  have hsz:s.size+r.size≤9223372036854775807:=by rw[hs1,hr1];exact hsz
  have:(binOp .add t (.string s) (.string r)).run P w=.ok (.string (s++r)) w:=by
   have h:¬ (((s.size+r.size:Nat):Int)>IntKind.i64.max):=by
    have:IntKind.i64.max=9223372036854775807:=by decide
    omega
   simp only[binOp,Op.stringOp]
   rw[if_neg h];rfl
  rw[this]
  exact Gives.val hD rfl (relStr _ _ (by simp[ByteArray.data_append]))
 case eql=>exact Gives.val hD (by simp only[binOp,Op.stringOp,e1,e2,Sem.run_pure]) (relBool _)
 case neq=>exact Gives.val hD (by simp only[binOp,Op.stringOp,e1,e2,Sem.run_pure]) (relBool _)
 case lss=>exact Gives.val hD (by simp only[binOp,Op.stringOp,e1,e2,Sem.run_pure]) (relBool _)
 case leq=>exact Gives.val hD (by simp only[binOp,Op.stringOp,e1,e2,Sem.run_pure]) (relBool _)
 case gtr=>exact Gives.val hD (by simp only[binOp,Op.stringOp,e1,e2,Sem.run_pure]) (relBool _)
 case geq=>exact Gives.val hD (by simp only[binOp,Op.stringOp,e1,e2,Sem.run_pure]) (relBool _)
 all_goals cases hD

theorem opBin_sound {d:Dir}{op:BinOp}{u v:AV}{x y:Value}{t:TypeId}{o1 o2:Operand}(hx:RelV w F ρ H u x)(hy:RelV w F ρ H v y)(hD:opBin d op u v=some D)(hcs:AllC Sp D.cs):
  Gives F ρ H w ((do eqGuard op t o1 o2 x y;binOp op t x y:Sem Value).run P w) D:=by
 unfold opBin at hD
 split at hD
 ·rename_i k a k' b
  have:=hx.ints;subst this
  have:=hy.ints;subst this
  rw[Sem.run_bind,run_eqGuard_int,Result.andThen_ok]
  split at hD
  ·have hb:leb 0 b=true:=by have:=intRes_cs hD hcs;exact this.1
   have hb:¬ b<0:=by simp[leb]at hb;omega
   have:(binOp .shl t (.int k a) (.int k' b)).run P w=.ok (.int k (k.wrap (a*2 ^ (min b.toNat k.bits)))) w:=by
    simp[binOp,Op.shift,hb]
   rw[this];exact intRes_sound hD hcs
  ·have hb:leb 0 b=true:=by have:=val_cs hD;rw[this]at hcs;exact hcs.1
   have hb:¬ b<0:=by simp[leb]at hb;omega
   have:(binOp .shr t (.int k a) (.int k' b)).run P w=.ok (.int k (a.fdiv (2 ^ (min b.toNat k.bits)))) w:=by
    simp[binOp,Op.shift,hb]
   rw[this];exact Gives.val hD rfl (relInt _ _)
  ·rename_i h1 h2
   simp only[cond_eq_ite]at hD
   split at hD
   ·rename_i hk
    have hk:k=k':=by simpa[beqK]using hk
    subst hk
    exact binI_sound (fun e=>h1 e) (fun e=>h2 e) hD hcs
   ·cases hD
 ·rename_i a b
  obtain⟨s,rfl,hs⟩:=hx.strs
  obtain⟨r,rfl,hr⟩:=hy.strs
  rw[Sem.run_bind,run_eqGuard_str,Result.andThen_ok]
  exact binS_sound hs hr hD hcs
 ·cases hD

theorem opEqb_sound {neq:Bool}{u v:AV}{x y:Value}{t:TypeId}{o1 o2:Operand}(ht:P.underlying t=some .bool)(hx:RelV w F ρ H u x)(hy:RelV w F ρ H v y)(hD:opEqb neq u v=some D):
  Gives F ρ H w ((do eqGuard (if neq then .neq else .eql) t o1 o2 x y;binOp (if neq then .neq else .eql) t x y:Sem Value).run P w) D:=by
 unfold opEqb at hD
 split at hD
 ·rename_i a b
  have:=hx.bools;subst this
  have:=hy.bools;subst this
  rw[Sem.run_bind,run_eqGuard_bool,Result.andThen_ok]
  have he:(Op.equal t (.bool a) (.bool b)).run P w=.ok (a==b) w:=run_equalIn_bool' w 9999 t a b ht
  cases neq
  ·refine Gives.val hD ?_ (relBool _)
   have:binOp .eql t (.bool a) (.bool b)=(do pure (.bool (← Op.equal t (.bool a) (.bool b)))):=rfl
   simp only[Bool.false_eq_true,if_false,this,Sem.run_bind,he,Result.andThen_ok,Sem.run_pure,negIf]
  ·refine Gives.val hD ?_ (relBool _)
   have:binOp .neq t (.bool a) (.bool b)=(do pure (.bool (!(← Op.equal t (.bool a) (.bool b))))):=rfl
   simp only[if_true,this,Sem.run_bind,he,Result.andThen_ok,Sem.run_pure,negIf]
 ·cases hD

theorem opUn_sound {d:Dir}{op:UnOp}{v:AV}{x:Value}(hx:RelV w F ρ H v x)(hD:opUn d op v=some D)(hcs:AllC Sp D.cs):
  Gives F ρ H w ((Op.unary op x).run P w) D:=by
 unfold opUn at hD
 split at hD
 ·rename_i k n
  have:=hx.ints;subst this
  exact intRes_sound hD hcs
 ·rename_i b
  have:=hx.bools;subst this
  exact Gives.val hD rfl (relBool _)
 ·cases hD

theorem opConv_sound {d:Dir}{k:IntKind}{v:AV}{x:Value}{src dst:TypeId}{ds:TypeDesc}(hs:P.underlying src=some ds)(ht:P.underlying dst=some (.int k))(hx:RelV w F ρ H v x)(hD:opConv d k v=some D)(hcs:AllC Sp D.cs):
  Gives F ρ H w ((convert src dst x).run P w) D:=by
 unfold opConv at hD
 split at hD
 ·rename_i k' n
  have:=hx.ints;subst this
  have:(convert src dst (.int k' n)).run P w=.ok (.int k (k.wrap n)) w:=by
   simp only[convert,Sem.run_bind,underlying,run_program,Result.andThen_ok,hs,ht]
   cases ds<;>rfl
  rw[this];exact intRes_sound hD hcs
 ·cases hD

end
end Go.Ab

/-
 Operations that only compute: parts of values, places, lengths, strings.
-/
set_option linter.unusedVariables false
set_option linter.unusedSimpArgs false
namespace Go.Ab
open Go
section
variable {P:Program}{F:Nat→Prop}{ρ:Nat→Option Nat}{H:Nat→Option HO}{w:World}{look:Nat→Option HO}
 {Sp:SpT} {D:Delta}

theorem RelVs.drop:∀{l:List AV} {xs:List Value} (n:Nat),RelVs w F ρ H l xs→RelVs w F ρ H (l.drop n) (xs.drop n)
 |_,_,0,h=>h
 |_,_,_+1,.nil=>.nil
 |_,_,n+1,.cons _ _ _ _ _ hs=>hs.drop n
theorem RelVs.take:∀{l:List AV} {xs:List Value} (n:Nat),RelVs w F ρ H l xs→RelVs w F ρ H (l.take n) (xs.take n)
 |_,_,0,h=>.nil
 |_,_,_+1,.nil=>.nil
 |_,_,n+1,.cons _ _ _ _ hv hs=>.cons _ _ _ _ hv (hs.take n)
theorem RelVs.app:∀{l m:List AV} {xs ys:List Value},RelVs w F ρ H l xs→RelVs w F ρ H m ys→RelVs w F ρ H (l++m) (xs++ys)
 |_,_,_,_,.nil,k=>k
 |_,_,_,_,.cons _ _ _ _ hv hs,k=>.cons _ _ _ _ hv (hs.app k)
theorem RelVs.ext {l:List AV}{xs:Array Value}(a n:Nat)(h:RelVs w F ρ H l xs.toList):RelVs w F ρ H ((l.drop a).take n) (xs.extract a (a+n)).toList:=by
 have:=(h.drop a).take n
 rw[Array.toList_extract,List.extract_eq_take_drop]
 simpa using this
theorem RelVs.getD {l:List AV}{xs:Array Value}(h:RelVs w F ρ H l xs.toList){i:Nat}(hi:i<l.length):∃x,xs[i]? =some x∧RelV w F ρ H (l.getD i .undef) x:=by
 have hv:l[i]? =some l[i]:=List.getElem?_eq_getElem hi
 obtain⟨x,h1,h2⟩:=h.get hv
 exact⟨x,by simpa using h1,by simpa[List.getD,hi]using h2⟩

theorem run_underlying' {t:TypeId}{d:TypeDesc}(h:P.underlying t=some d):(underlying t).run P w=.ok d w:=by simp[underlying,h]

theorem run_part {t:TypeId}{agg:Option Nat}(hT:TyOk P t agg){l:List AV}{xs:Array Value}(h:RelVs w F ρ H l xs.toList)(off:Nat):
  (agg=none→off<l.length→∃x,(part t xs off).run P w=.ok x w∧RelV w F ρ H (l.getD off .undef) x)∧
  (∀n,agg=some n→∃x,(part t xs off).run P w=.ok x w∧RelV w F ρ H (.agg ((l.drop off).take n)) x):=by
 obtain⟨i,hi,hsz⟩:=hT.sz
 refine⟨fun e hlt=>?_,fun n e=>?_⟩
 ·subst e
  obtain⟨x,h1,h2⟩:=h.getD hlt
  exact⟨x,by simp[part,run_isAgg hT,h1],h2⟩
 ·subst e
  refine⟨.agg (xs.extract off (off+n)),?_,.agg _ _ (h.ext off n)⟩
  simp only[part,Sem.run_bind,run_isAgg hT,Result.andThen_ok,Option.isSome_some,if_true]
  simp[run_sizeOf' hi,hsz n rfl]

theorem opField_sound {off:Nat}{agg:Option Nat}{v:AV}{x:Value}{t:TypeId}{fs:Array Field}{f:Field}{ix:Nat}(ht:P.underlying t=some (.struct fs))(hf:fs[ix]? =some f)
  (hoff:f.offset=off) (hT:TyOk P f.type agg) (hx:RelV w F ρ H v x) (hD:opField off agg v=some D) (hcs:AllC Sp D.cs):Gives F ρ H w ((Instr.field t x ix).run P w) D:=by
 unfold opField at hD
 split at hD
 ·rename_i l
  obtain⟨xs,rfl,hs⟩:=hx.aggs
  have hrun:(Instr.field t (.agg xs) ix).run P w=(part f.type xs off).run P w:=by
   simp only[Instr.field,Sem.run_bind,run_underlying' ht,Result.andThen_ok,hf,asAgg,Sem.run_pure,hoff]
  rw[hrun]
  obtain⟨p1,p2⟩:=run_part hT hs off
  split at hD
  ·have hlt:off<l.length:=by have:=val_cs hD;rw[this]at hcs;simpa[AllC,Cd.holds,ltn]using hcs
   obtain⟨y,q1,q2⟩:=p1 rfl hlt
   exact Gives.val hD q1 q2
  ·rename_i n
   obtain⟨y,q1,q2⟩:=p2 n rfl
   exact Gives.val hD q1 q2
 ·cases hD

theorem getV_drop (c:Cont)(n i:Nat):(c.drop n).getV i=c.getV (n+i):=by
 cases c<;>simp[Cont.drop,Cont.getV,List.getD,List.getElem?_drop]
theorem size_drop (c:Cont)(n:Nat):(c.drop n).size=c.size-n:=by
 cases c<;>simp[Cont.drop,Cont.size]
theorem getV_take (c:Cont)(n i:Nat)(h:i<n):(c.take n).getV i=c.getV i:=by
 cases c<;>simp[Cont.take,Cont.getV,List.getD,List.getElem?_take,h]
theorem size_take (c:Cont)(n:Nat):(c.take n).size=min n c.size:=by
 cases c<;>simp[Cont.take,Cont.size]

theorem iptr_drop {c:Cont}{b o:Nat}(n:Nat)(h:RelI w F (.iptr c) (.pointer (some ⟨b,o,none⟩))):RelI w F (.iptr (c.drop n)) (.pointer (some ⟨b,o+n,none⟩)):=by
 cases h with
 |iptr _ _ _ xs hF hc hr ho=>
  refine .iptr _ b (o+n) (fun i=>xs (n+i)) hF (fun i hi=>?_) (fun i hi=>?_) (fun i hi=>by rw[size_drop]at hi;exact ho (n+i) (by omega))
  ·rw[size_drop]at hi
   have:=hc (n+i) (by omega)
   rw[show o+n+i=o+(n+i)by omega];exact this
  ·rw[size_drop]at hi
   rw[getV_drop];exact hr (n+i) (by omega)

theorem opFieldA_sound (hl:∀id o,look id=some o→H id=some o){off:Nat}{v:AV}{x:Value}{t:TypeId}{fs:Array Field}{f:Field}{ix:Nat}{inf:TypeInfo}(ht:P.underlying t=some (.struct fs))(hf:fs[ix]? =some f)
  (hoff:f.offset=off) (hi:P.info? f.type=some inf) (hsz:inf.size≠0) (hx:RelV w F ρ H v x) (hD:opFieldA look off v=some D) (hcs:AllC Sp D.cs):Gives F ρ H w ((Instr.fieldAt t x ix).run P w) D:=by
 have hrun:∀b o,(Instr.fieldAt t (.pointer (some ⟨b,o,none⟩)) ix).run P w=.ok (.pointer (some ⟨b,o+off,none⟩)) w:=fun b o=>by
  simp[Instr.fieldAt,run_underlying' ht,hf,Instr.sureAddr,fieldPlace,run_sizeOf' hi,hsz,addr_add,hoff]
 unfold opFieldA at hD
 split at hD
 ·rename_i id o
  cases hx with
  |imm _ _ hi=>cases hi
  |ptr _ _ b ob hb hh hbx=>exact Gives.val hD (hrun b o) (.ptr id _ b ob hb hh hbx)
 ·rename_i id n o
  split at hD
  ·rename_i k0 hk
   have hH:=hl _ _ hk
   cases hx with
   |imm _ _ hi=>cases hi
   |ep _ _ _ k _ hh hle hp hxx=>
    rw[hH]at hh;cases hh
    have hn:k0.n=n:=by have:=val_cs hD;rw[this]at hcs;exact hcs.1
    obtain⟨b,hb,rfl⟩:=hxx hn
    exact Gives.val hD (hrun b o) (.ep id n _ k0 _ hH hle ⟨_,rfl⟩ (fun _=>⟨b,hb,rfl⟩))
  ·cases hD
 ·rename_i c
  cases hx with
  |imm _ _ hi=>
   have hi':=hi
   cases hi with
   |iptr _ b o xs hF hc hr ho=>exact Gives.val hD (hrun b o) (.imm _ _ (iptr_drop off hi'))
 ·cases hD

theorem opNilck_sound (hl:∀id o,look id=some o→H id=some o){v:AV}{x:Value}{ρo:Operand→Value}{o:Oper}{xo:Operand}(ho:o.op=.nilCheck xo)(hxo:ρo xo=x)(hx:RelV w F ρ H v x)(hD:opNilck look v=some D)(hcs:AllC Sp D.cs):
  ∃y,(execOp ρo o).run P w=.ok (.value y) w∧RelV w F ρ H D.v y∧D.ws=[]∧D.al=[]:=by
 have key:∀y,((match x with
  |.pointer none|.nilIface|.nilFunc=>(runtimePanic .nilDeref:Sem Next)
  |.func (.method name) first captured=>
   match(first[0]? :Option Value)with
   |some .nilIface=>runtimePanic .nilDeref
   |some (.iface t w)=>do
    if(← nilAhead ((← program).types.size+Made.depth) t w name) !=some false then
     unsupported (.noEntry "op/nilCheck.the method's receiver behind this interface value is a nil pointer, or cannot be seen to be none, and the arguments act or may panic (ledger 612)")
    pure (.value (.func (.method name) first captured))
   |_=>pure (.value (.func (.method name) first captured))
  |x=>pure (.value x)):Sem Next).run P w=.ok (.value y) w→(execOp ρo o).run P w=.ok (.value y) w:=by
  intro y hy
  unfold execOp
  rw[ho]
  simp only[hxo]
  exact hy
 unfold opNilck at hD
 split at hD
 ·rename_i f a c
  obtain⟨xs,ys,rfl,h1,h2⟩:=hx.fns
  cases hD
  exact⟨_,key _ rfl,.fn f _ _ _ _ h1 h2,rfl,rfl⟩
 ·rename_i i
  cases hD
  cases hx with
  |imm _ _ hi=>cases hi
  |yld _ b ob hb hh hbx=>exact⟨_,key _ rfl,.yld i b ob hb hh hbx,rfl,rfl⟩
 ·rename_i i o
  cases hD
  cases hx with
  |imm _ _ hi=>cases hi
  |ptr _ _ b ob hb hh hbx=>exact⟨_,key _ rfl,.ptr i _ b ob hb hh hbx,rfl,rfl⟩
 ·rename_i i n o
  split at hD
  ·rename_i k0 hk
   have hH:=hl _ _ hk
   cases hx with
   |imm _ _ hi=>cases hi
   |ep _ _ _ k _ hh hle hp hxx=>
    rw[hH]at hh;cases hh
    have hn:k0.n=n:=by have:=val_cs hD;rw[this]at hcs;exact hcs.1
    obtain⟨b,hb,rfl⟩:=hxx hn
    cases hD
    exact⟨_,key _ rfl,.ep i n _ k0 _ hH hle ⟨_,rfl⟩ (fun _=>⟨b,hb,rfl⟩),rfl,rfl⟩
  ·cases hD
 ·rename_i i v j
  split at hD
  ·rename_i k0 l0 v1 hk
   have hH:=hl _ _ hk
   have hx0:=hx
   cases hx with
   |imm _ _ hi=>cases hi
   |qe _ _ _ k l v2 _ hh hle hp hxx=>
    rw[hH]at hh;cases hh
    have hn:v1=v:=by have:=val_cs hD;rw[this]at hcs;exact hcs.1
    obtain⟨b,o,cs,ty,fz,q1,q2,rfl,_⟩:=hxx hn
    cases hD
    exact⟨_,key _ rfl,hx0,rfl,rfl⟩
  ·cases hD
 ·rename_i c
  cases hD
  cases hx with
  |imm _ _ hi=>
   have hi':=hi
   cases hi with
   |iptr _ b o xs hF hc hr ho=>exact⟨_,key _ rfl,.imm _ _ hi',rfl,rfl⟩
 ·cases hD

theorem mz_eq (x sz:Nat):mz x sz=x*sz:=by
 unfold mz;split<;>simp
theorem az_eq (x y:Nat):az x y=x+y:=by
 unfold az;split<;>simp

theorem run_asIntOf (k:IntKind)(i:Int):(asIntOf (.int k i)).run P w=.ok (k,i) w:=rfl

theorem opIdxA_sound (hl:∀id o,look id=some o→H id=some o){arr:Option Nat}{sz:Nat}{u v:AV}{x y:Value}{t e:TypeId}{inf:TypeInfo}
  (ht:P.underlying t=some (match arr with|none=>.slice e|some n=>.array n e)) (hi:P.info? e=some inf) (hsz:inf.size=sz)
  (hx:RelV w F ρ H u x) (hy:RelV w F ρ H v y) (hD:opIdxA look arr sz u v=some D) (hcs:AllC Sp D.cs):Gives F ρ H w ((Instr.indexAt t x y).run P w) D:=by
 unfold opIdxA at hD
 split at hD
 ·rename_i k i
  have:=hy.ints;subst this
  split at hD
  ·have hrun:∀(b o len cap:Nat),0≤i→i<(len:Int)→(Instr.indexAt t (.slice (some ⟨b,o,none⟩) len cap) (.int k i)).run P w=.ok (.pointer (some ⟨b,o+i.toNat*sz,none⟩)) w:=fun b o len cap h0 h1=>by
    simp[Instr.indexAt,run_asIntOf,run_underlying' ht,h0,h1,run_sizeOf' hi,hsz,addr_add]
   split at hD
   ·rename_i id len
    split at hD
    ·rename_i k0 hk
     have hH:=hl _ _ hk
     simp only[cond_eq_ite]at hD
     split at hD
     ·cases hx with
      |imm _ _ hi=>cases hi
      |full _ _ k1 _ hh hle hp hxx=>
       rw[hH]at hh;cases hh
       have h3:=val_cs hD;rw[h3]at hcs
       obtain⟨g0,g1,g2,_⟩:=hcs
       have g0:0≤i:=by simpa[Cd.holds,leb]using g0
       have g1:i<len:=by simpa[Cd.holds,ltb]using g1
       rcases hxx g2 with⟨e,_⟩|⟨e,_⟩|⟨_,b,cap,cs,ty,fz,p1,p2,rfl,p3,p4,p5⟩
       ·omega
       ·omega
       ·refine Gives.val hD (hrun b 0 len cap g0 g1) ?_
        rw[mz_eq,Nat.zero_add]
        exact .ep id len _ k0 _ hH (Nat.le_of_eq g2.symm) ⟨_,rfl⟩ (fun _=>⟨b,p1,rfl⟩)
     ·cases hD
    ·cases hD
   ·rename_i id off len cap
    cases hx with
    |imm _ _ hi=>cases hi
    |sl _ _ _ _ b k1 hb hh hbx hlc=>
     have h3:=val_cs hD;rw[h3]at hcs
     obtain⟨g0,g1,_⟩:=hcs
     have g0:0≤i:=by simpa[Cd.holds,leb]using g0
     have g1:i<len:=by simpa[Cd.holds,ltb]using g1
     refine Gives.val hD (hrun b off len cap g0 g1) ?_
     rw[az_eq,mz_eq]
     exact .ptr id _ b _ hb hh hbx
   ·rename_i id n s off len
    split at hD
    ·rename_i k0 hk
     have hH:=hl _ _ hk
     simp only[cond_eq_ite]at hD
     split at hD
     ·rename_i hq
      rw[Bool.and_eq_true]at hq
      have e1:=Nat.eq_of_beq_eq_true hq.1
      have e2:=Nat.eq_of_beq_eq_true hq.2
      subst e2
      have h3:=val_cs hD;rw[h3]at hcs
      obtain⟨g0,g1,g2,_⟩:=hcs
      have g0:0≤i:=by simpa[Cd.holds,leb]using g0
      have g1:i<len:=by simpa[Cd.holds,ltb]using g1
      have g2:k0.n=n:=g2
      obtain⟨hle,⟨e,_⟩|⟨b,cap,cs,ty,fz,p1,p2,rfl,p3,p4⟩⟩:=hx.vws hH g2
      ·omega
      ·refine Gives.val hD (hrun b _ len _ g0 g1) ?_
       rw[mz_eq,az_eq,Nat.add_mul]
       exact .ep id n _ k0 _ hH (Nat.le_of_eq g2.symm) ⟨_,rfl⟩ (fun _=>⟨b,p1,rfl⟩)
     ·cases hD
    ·cases hD
   ·rename_i c len cap
    have h3:=val_cs hD;rw[h3]at hcs
    obtain⟨g0,g1,g2,_⟩:=hcs
    have g0:0≤i:=by simpa[Cd.holds,leb]using g0
    have g1:i<len:=by simpa[Cd.holds,ltb]using g1
    cases hx with
    |imm _ _ hi=>
     cases hi with
     |imm _ _ _ b o cap' xs hF hc hr ho hl hcap=>
      refine Gives.val hD (hrun b o len cap' g0 g1) ?_
      rw[mz_eq]
      exact .imm _ _ (iptr_drop _ (.iptr c b o xs hF hc hr ho))
     |imm0 _ _ _ hc _=>omega
   ·rename_i id v d
    split at hD
    ·rename_i k0 l0 v1 hk
     have hH:=hl _ _ hk
     simp only[cond_eq_ite]at hD
     split at hD
     ·rename_i hq
      have e1:=Nat.eq_of_beq_eq_true hq
      subst e1
      have h3:=val_cs hD;rw[h3]at hcs
      obtain⟨g0,g1,g2,_⟩:=hcs
      have g0:0≤i:=by simpa[Cd.holds,leb]using g0
      have g1:d+i.toNat<l0.length:=by simpa[Cd.holds,ltn]using g1
      have g2:v1=v:=g2
      cases hx with
      |imm _ _ hi=>cases hi
      |qu _ _ _ k l v2 _ hh hle hp hxx=>
       rw[hH]at hh;cases hh
       obtain⟨b,o,c,cs,ty,fz,q1,q2,q3,q4,rfl,q5,q6,q7,q8⟩:=hxx g2
       refine Gives.val hD (hrun b o _ c g0 (by omega)) ?_
       rw[Nat.mul_one]
       exact .qe id v _ k0 l0 v1 _ hH hle ⟨_,rfl⟩ (fun _=>⟨b,o+i.toNat,cs,ty,fz,q1,q2,rfl,g1,q7 _ g1⟩)
     ·cases hD
    ·cases hD
   ·cases hD
  ·rename_i n
   have hrun:∀b o,0≤i→i<n→(Instr.indexAt t (.pointer (some ⟨b,o,none⟩)) (.int k i)).run P w=.ok (.pointer (some ⟨b,o+i.toNat*sz,none⟩)) w:=fun b o h0 h1=>by
    simp[Instr.indexAt,run_asIntOf,run_underlying' ht,h0,h1,run_sizeOf' hi,hsz,addr_add,Instr.sureAddr]
   split at hD
   ·rename_i id off
    have h3:=val_cs hD;rw[h3]at hcs
    obtain⟨g0,g1,_⟩:=hcs
    have g0:0≤i:=by simpa[Cd.holds,leb]using g0
    have g1:i<n:=by simpa[Cd.holds,ltb]using g1
    cases hx with
    |imm _ _ hi=>cases hi
    |ptr _ _ b ob hb hh hbx=>
     refine Gives.val hD (hrun b off g0 g1) ?_
     rw[az_eq,mz_eq]
     exact .ptr id _ b ob hb hh hbx
   ·rename_i c
    have h3:=val_cs hD;rw[h3]at hcs
    obtain⟨g0,g1,_⟩:=hcs
    have g0:0≤i:=by simpa[Cd.holds,leb]using g0
    have g1:i<n:=by simpa[Cd.holds,ltb]using g1
    cases hx with
    |imm _ _ hi=>
     have hi':=hi
     cases hi with
     |iptr _ b o xs hF hc hr ho=>
      refine Gives.val hD (hrun b o g0 g1) ?_
      rw[mz_eq]
      exact .imm _ _ (iptr_drop _ hi')
   ·cases hD
 ·cases hD

theorem opIdx_sound {n sz:Nat}{agg:Bool}{u v:AV}{x y:Value}{t e:TypeId}{inf:TypeInfo}(ht:P.underlying t=some (.array n e))(hT:TyOk P e (if agg then some sz else none))(hi:P.info? e=some inf)(hsz:inf.size=sz)
  (hx:RelV w F ρ H u x) (hy:RelV w F ρ H v y) (hD:opIdx n sz agg u v=some D) (hcs:AllC Sp D.cs):Gives F ρ H w ((Instr.index t x y).run P w) D:=by
 unfold opIdx at hD
 split at hD
 ·rename_i l k i
  have:=hy.ints;subst this
  obtain⟨xs,rfl,hs⟩:=hx.aggs
  have hrun:0≤i→i<n→(Instr.index t (.agg xs) (.int k i)).run P w=(part e xs (i.toNat*sz)).run P w:=fun h0 h1=>by
   simp[Instr.index,run_asIntOf,run_underlying' ht,h0,h1,run_sizeOf' hi,hsz]
  obtain⟨p1,p2⟩:=run_part hT hs (i.toNat*sz)
  split at hD
  ·have h3:=val_cs hD;rw[h3]at hcs
   obtain⟨g0,g1,g2,_⟩:=hcs
   have g0:0≤i:=by simpa[Cd.holds,leb]using g0
   have g1:i<n:=by simpa[Cd.holds,ltb]using g1
   have g2:mz i.toNat sz<l.length:=by simpa[Cd.holds,ltn]using g2
   rw[mz_eq]at g2 hD
   obtain⟨z,q1,q2⟩:=p1 rfl g2
   exact Gives.val hD ((hrun g0 g1).trans q1) q2
  ·have h3:=val_cs hD;rw[h3]at hcs
   obtain⟨g0,g1,g2,_⟩:=hcs
   have g0:0≤i:=by simpa[Cd.holds,leb]using g0
   have g1:i<n:=by simpa[Cd.holds,ltb]using g1
   rw[mz_eq]at hD
   obtain⟨z,q1,q2⟩:=p2 sz rfl
   exact Gives.val hD ((hrun g0 g1).trans q1) q2
 ·cases hD

theorem opIdxD_sound {d:Dir}{n sz:Nat}{agg:Bool}{u v:AV}{x y:Value}{t e:TypeId}{inf:TypeInfo}(ht:P.underlying t=some (.array n e))(hT:TyOk P e (if agg then some sz else none))(hi:P.info? e=some inf)(hsz:inf.size=sz)
  (hx:RelV w F ρ H u x) (hy:RelV w F ρ H v y) (hD:opIdxD d n sz agg u v=some D) (hcs:AllC Sp D.cs):Gives F ρ H w ((Instr.index t x y).run P w) D:=by
 unfold opIdxD at hD
 split at hD
 ·split at hD
  ·rename_i l k i v' _
   have h3:=val_cs hD
   rw[h3]at hcs
   obtain⟨g0,g1,g2,_⟩:=hcs
   have g2:l[mz i.toNat sz]? =some v':=g2
   have hv:v'=l.getD (mz i.toNat sz) .undef:=by rw[List.getD_eq_getElem?_getD,g2];rfl
   have hlt:mz i.toNat sz<l.length:=(List.getElem?_eq_some_iff.1 g2).1
   clear g2
   subst hv
   cases hD
   have hE:opIdx n sz false (.agg l) (.int k i)=some ⟨l.getD (mz i.toNat sz) .undef,[],[],[.b (leb 0 i),.b (ltb i n),.b (ltn (mz i.toNat sz) l.length)]⟩:=rfl
   have h:=opIdx_sound ht hT hi hsz hx hy hE ⟨g0,g1,by simpa[Cd.holds,ltn]using hlt,trivial⟩
   exact h
  ·rename_i l k i v1 v2 _
   rw[cond_eq_ite]at hD
   split at hD
   ·rename_i hz
    have hz:=Nat.eq_of_beq_eq_true hz
    subst hz
    have h3:=val_cs hD
    rw[h3]at hcs
    obtain⟨g0,g1,g2,g3,_⟩:=hcs
    have g2:l[mz i.toNat 2]? =some v1:=g2
    have g3:l[mz i.toNat 2+1]? =some v2:=g3
    have hlt:mz i.toNat 2+1<l.length:=(List.getElem?_eq_some_iff.1 g3).1
    have hv:[v1,v2]=(l.drop (mz i.toNat 2)).take 2:=by
     have e1:=(List.getElem?_eq_some_iff.1 g2).2
     have e2:=(List.getElem?_eq_some_iff.1 g3).2
     rw[List.drop_eq_getElem_cons (show mz i.toNat 2<l.length by omega),List.drop_eq_getElem_cons hlt,e1,e2];rfl
    rw[hv]at hD
    cases hD
    have hE:opIdx n 2 true (.agg l) (.int k i)=some ⟨.agg ((l.drop (mz i.toNat 2)).take 2),[],[],[.b (leb 0 i),.b (ltb i n),.b (len' (mz i.toNat 2+2) l.length)]⟩:=rfl
    have h:=opIdx_sound ht hT hi hsz hx hy hE ⟨g0,g1,by simp[Cd.holds,len'];omega,trivial⟩
    exact h
   ·cases hD
  ·cases hD
 ·exact opIdx_sound ht hT hi hsz hx hy hD hcs

theorem opIdxs_sound {u v:AV}{x y:Value}{t:TypeId}(ht:P.underlying t=some .string)(hx:RelV w F ρ H u x)(hy:RelV w F ρ H v y)(hD:opIdxs u v=some D)(hcs:AllC Sp D.cs):
  Gives F ρ H w ((Instr.index t x y).run P w) D:=by
 unfold opIdxs at hD
 split at hD
 ·rename_i l k i
  have:=hy.ints;subst this
  obtain⟨s,rfl,hs⟩:=hx.strs
  have h3:=val_cs hD;rw[h3]at hcs
  obtain⟨g0,g1,_⟩:=hcs
  have g0:0≤i:=by simpa[Cd.holds,leb]using g0
  have g1:i<l.length:=by simpa[Cd.holds,ltb]using g1
  subst hs
  have hlt:i.toNat<s.data.toList.length:=by omega
  have hb:s[i.toNat]? =some (s.data.toList.getD i.toNat 0):=by
   have h1:i.toNat<s.size:=by rw[show s.size=s.data.toList.length from(Array.length_toList).symm];exact hlt
   rw[getElem?_pos s i.toNat h1]
   congr 1
   simp only[List.getD,List.getElem?_eq_getElem hlt,Option.getD_some]
   simp[ByteArray.getElem_eq_getElem_data]
  have hrun:(Instr.index t (.string s) (.int k i)).run P w=.ok (.int .u8 (s.data.toList.getD i.toNat 0).toNat) w:=by
   simp only[Instr.index,Sem.run_bind,run_asIntOf,Result.andThen_ok,run_underlying' ht,g0,if_true,hb,Sem.run_pure]
  exact Gives.val hD hrun (relInt _ _)
 ·cases hD

theorem opLens_sound {v:AV}{x:Value}{t ty:TypeId}(ht:P.underlying t=some .string)(hx:RelV w F ρ H v x)
  (hD:opLens v=some D):Gives F ρ H w ((Builtin.len_ #[t] ty #[x]).run P w) D:=by
 unfold opLens at hD
 split at hD
 ·rename_i l
  obtain⟨s,rfl,hs⟩:=hx.strs
  have hsz:(s.size:Int)=(l.length:Int):=by rw[← hs,show s.data.toList.length=s.size from Array.length_toList]
  exact Gives.val hD (by simp[Builtin.len_,run_underlying' ht,goInt,hsz]) (relInt _ _)
 ·cases hD

theorem opLen_sound (hl:∀id o,look id=some o→H id=some o){v:AV}{x:Value}{t ty e:TypeId}(ht:P.underlying t=some (.slice e))(hx:RelV w F ρ H v x)
  (hD:opLen look v=some D) (hcs:AllC Sp D.cs):Gives F ρ H w ((Builtin.len_ #[t] ty #[x]).run P w) D:=by
 have hsl:∀a l c,x=.slice a l c→(Builtin.len_ #[t] ty #[x]).run P w=.ok (.int .i64 l) w:=by
  rintro a l c rfl
  simp[Builtin.len_,run_underlying' ht,goInt]
 unfold opLen at hD
 split at hD
 ·cases hx with|imm _ _ hi=>cases hi;exact Gives.val hD (hsl _ _ _ rfl) (relInt _ _)
 ·cases hx with
  |imm _ _ hi=>
   cases hi with
   |imm=>exact Gives.val hD (hsl _ _ _ rfl) (relInt _ _)
   |imm0=>exact Gives.val hD (hsl _ _ _ rfl) (relInt _ _)
 ·cases hx with
  |imm _ _ hi=>cases hi
  |sl=>exact Gives.val hD (hsl _ _ _ rfl) (relInt _ _)
 ·rename_i id n s off len
  split at hD
  ·rename_i k0 hk
   have h3:=val_cs hD;rw[h3]at hcs
   obtain⟨_,a,c,_,e⟩:=hx.vwf (hl _ _ hk) hcs.1
   exact Gives.val hD (hsl _ _ _ e) (relInt _ _)
  ·cases hD
 ·rename_i id len
  split at hD
  ·rename_i k0 hk
   have hH:=hl _ _ hk
   cases hx with
   |imm _ _ hi=>cases hi
   |full _ _ k1 _ hh hle hp hxx=>
    rw[hH]at hh;cases hh
    have h3:=val_cs hD;rw[h3]at hcs
    rcases hxx hcs.1 with⟨rfl,_,_,rfl⟩|⟨rfl,_,_,a,rfl⟩|⟨_,b,cap,cs,ty,fz,p1,p2,rfl,p3,p4,p5⟩
    ·exact Gives.val hD (hsl _ _ _ rfl) (relInt _ _)
    ·exact Gives.val hD (hsl _ _ _ rfl) (relInt _ _)
    ·exact Gives.val hD (hsl _ _ _ rfl) (relInt _ _)
  ·cases hD
 ·rename_i id v d
  split at hD
  ·rename_i k0 l0 v1 hk
   have hH:=hl _ _ hk
   have h3:=val_cs hD;rw[h3]at hcs
   cases hx with
   |imm _ _ hi=>cases hi
   |qu _ _ _ k l v2 _ hh hle hp hxx=>
    rw[hH]at hh;cases hh
    obtain⟨b,o,c,cs,ty,fz,q1,q2,q3,q4,rfl,q5⟩:=hxx hcs.1
    exact Gives.val hD (hsl _ _ _ rfl) (relInt _ _)
  ·cases hD
 ·cases hD

theorem opCap_sound (hl:∀id o,look id=some o→H id=some o){v:AV}{x:Value}{t ty e:TypeId}(ht:P.underlying t=some (.slice e))(hx:RelV w F ρ H v x)
  (hD:opCap look v=some D) (hcs:AllC Sp D.cs):Gives F ρ H w ((Builtin.cap_ #[t] ty #[x]).run P w) D:=by
 have hsl:∀a l c,x=.slice a l c→(Builtin.cap_ #[t] ty #[x]).run P w=.ok (.int .i64 c) w:=by
  rintro a l c rfl
  simp[Builtin.cap_,run_underlying' ht,goInt]
 unfold opCap at hD
 split at hD
 ·cases hx with
  |imm _ _ hi=>cases hi
  |fullc=>exact Gives.val hD (hsl _ _ _ rfl) (relInt _ _)
 ·cases hx with|imm _ _ hi=>cases hi;exact Gives.val hD (hsl _ _ _ rfl) (relInt _ _)
 ·cases hx with
  |imm _ _ hi=>
   cases hi with
   |imm _ _ _ b o cap' xs hF hc hr ho hl hcap=>have:=hcap _ rfl;subst this;exact Gives.val hD (hsl _ _ _ rfl) (relInt _ _)
   |imm0 _ _ _ hc hcap=>have:=hcap _ rfl;subst this;exact Gives.val hD (hsl _ _ _ rfl) (relInt _ _)
 ·cases hx with
  |imm _ _ hi=>cases hi
  |sl=>exact Gives.val hD (hsl _ _ _ rfl) (relInt _ _)
 ·rename_i id len
  split at hD
  ·rename_i k0 hk
   have hH:=hl _ _ hk
   split at hD
   ·rename_i n hcap
    cases hx with
    |imm _ _ hi=>cases hi
    |full _ _ k1 _ hh hle hp hxx=>
     rw[hH]at hh;cases hh
     have h3:=val_cs hD;rw[h3]at hcs
     obtain⟨rfl,_,hc0,rfl⟩|⟨rfl,_,hc0,a,rfl⟩|⟨_,b,cap,cs,ty,fz,p1,p2,rfl,p3,p4,p5⟩:=hxx hcs.1
     ·have:=hc0 n hcap;subst this;exact Gives.val hD (hsl _ _ _ rfl) (relInt _ _)
     ·have:=hc0 n hcap;subst this;exact Gives.val hD (hsl _ _ _ rfl) (relInt _ _)
     ·have:=p5.1 n hcap;subst this;exact Gives.val hD (hsl _ _ _ rfl) (relInt _ _)
   ·cases hD
  ·cases hD
 ·cases hD

end
end Go.Ab

/-
 Strings cut, tuples, literals, function values, nil tests, extremes, comparison of structs and arrays.
-/
set_option linter.unusedVariables false
set_option linter.unusedSimpArgs false
namespace Go.Ab
open Go
section
variable {P:Program}{F:Nat→Prop}{ρ:Nat→Option Nat}{H:Nat→Option HO}{w:World}{look:Nat→Option HO}
 {Sp:SpT} {D:Delta}

theorem run_sliceBound (k:IntKind)(i:Int)(y:Nat)(c:BoundsCode)(h0:0≤i)(h1:i≤y):(Instr.sliceBound (.int k i) y c).run P w=.ok i.toNat w:=by
 simp[Instr.sliceBound,run_asIntOf,h0,h1]

theorem extract_toList (s:ByteArray)(a b:Nat):(s.extract a b).data.toList=(s.data.toList.drop a).take (b-a):=by
 rw[ByteArray.data_extract,Array.toList_extract,List.extract_eq_take_drop]

theorem opSlices_sound {lo hi:Bool}{v:AV}{bs:List AV}{x:Value}{xs:List Value}{t:TypeId}(ht:P.underlying t=some .string)(hx:RelV w F ρ H v x)(hb:RelVs w F ρ H bs xs)
  (hlen:bs.length=(if lo then 1 else 0)+(if hi then 1 else 0))
  (hD:opSlices lo hi v bs=some D) (hcs:AllC Sp D.cs):
  Gives F ρ H w ((Instr.slice t x (if lo then xs[0]? else none) (if hi then(if lo then xs[1]? else xs[0]?)else none) none).run P w) D:=by
 unfold opSlices at hD
 split at hD
 ·rename_i l
  obtain⟨s,rfl,hs⟩:=hx.strs
  have hsz:s.size=l.length:=by rw[← hs];exact(Array.length_toList).symm
  have hnone:∀a b,(Instr.slice t (.string s) a b none).run P w=((Instr.sliceBounds false s.size s.size a b none).run P w).andThen fun x w'=>.ok (.string (s.extract x.1 x.2.1)) w':=fun a b=>by
   simp[Instr.slice,run_underlying' ht]
  split at hD
  ·-- low alone
   cases bs with
   |nil=>simp at hlen
   |cons b bs=>
    cases bs with
    |cons=>simp at hlen
    |nil=>
     cases hb with
     |cons _ _ y _ hb1 hbs=>
      cases hbs
      split at hD
      ·rename_i k i hx1
       have hx1:b=.int k i:=by simpa[x1]using hx1
       subst hx1
       have:=hb1.ints;subst this
       have h3:=val_cs hD;rw[h3]at hcs
       obtain⟨g0,g1,_⟩:=hcs
       have g0:0≤i:=by simpa[Cd.holds,leb]using g0
       have g1:i.toNat≤l.length:=by simpa[Cd.holds,len']using g1
       have hrun:(Instr.slice t (.string s) (some (.int k i)) none none).run P w=.ok (.string (s.extract i.toNat s.size)) w:=by
        rw[hnone]
        simp[Instr.sliceBounds,run_sliceBound k i s.size _ g0 (by omega)]
       refine Gives.val hD (by simpa using hrun) (relStr _ _ ?_)
       rw[extract_toList,hs,hsz]
       exact List.take_of_length_le (by simp)
      ·cases hD
  ·cases bs with
   |nil=>simp at hlen
   |cons b bs=>
    cases bs with
    |cons=>simp at hlen
    |nil=>
     cases hb with
     |cons _ _ y _ hb1 hbs=>
      cases hbs
      split at hD
      ·rename_i k i hx1
       have hx1:b=.int k i:=by simpa[x1]using hx1
       subst hx1
       have:=hb1.ints;subst this
       have h3:=val_cs hD;rw[h3]at hcs
       obtain⟨g0,g1,_⟩:=hcs
       have g0:0≤i:=by simpa[Cd.holds,leb]using g0
       have g1:i.toNat≤l.length:=by simpa[Cd.holds,len']using g1
       have hrun:(Instr.slice t (.string s) none (some (.int k i)) none).run P w=.ok (.string (s.extract 0 i.toNat)) w:=by
        rw[hnone]
        simp[Instr.sliceBounds,run_sliceBound k i s.size _ g0 (by omega)]
       refine Gives.val hD (by simpa using hrun) (relStr _ _ ?_)
       rw[extract_toList,hs];simp
      ·cases hD
  ·cases bs with
   |nil=>simp at hlen
   |cons b bs=>
    cases bs with
    |nil=>simp at hlen
    |cons b' bs=>
     cases bs with
     |cons=>simp at hlen
     |nil=>
      cases hb with
      |cons _ _ y _ hb1 hbs=>
       cases hbs with
       |cons _ _ y' _ hb2 hbs=>
        cases hbs
        split at hD
        ·rename_i k i k' j hx1 hx2
         have hx1:b=.int k i:=by simpa[x1]using hx1
         have hx2:b'=.int k' j:=by simpa[x2]using hx2
         subst hx1 hx2
         have:=hb1.ints;subst this
         have:=hb2.ints;subst this
         have h3:=val_cs hD;rw[h3]at hcs
         obtain⟨g0,g1,g2,_⟩:=hcs
         have g0:0≤i:=by simpa[Cd.holds,leb]using g0
         have g1:i≤j:=by simpa[Cd.holds,leb]using g1
         have g2:j.toNat≤l.length:=by simpa[Cd.holds,len']using g2
         have hrun:(Instr.slice t (.string s) (some (.int k i)) (some (.int k' j)) none).run P w=.ok (.string (s.extract i.toNat j.toNat)) w:=by
          rw[hnone]
          simp[Instr.sliceBounds,run_sliceBound k' j s.size _ (by omega) (by omega),run_sliceBound k i j.toNat _ g0 (by omega)]
         refine Gives.val hD (by simpa using hrun) (relStr _ _ ?_)
         rw[extract_toList,hs]
        ·cases hD
  ·cases hD
 ·cases hD

theorem opExt_sound {i:Nat}{v:AV}{x:Value}(hx:RelV w F ρ H v x)(hD:opExt i v=some D)(hcs:AllC Sp D.cs):Gives F ρ H w ((Instr.extract x i).run P w) D:=by
 unfold opExt at hD
 split at hD
 ·rename_i l
  obtain⟨xs,rfl,hs⟩:=hx.tups
  have hlt:i<l.length:=by have:=val_cs hD;rw[this]at hcs;simpa[AllC,Cd.holds,ltn]using hcs
  obtain⟨y,h1,h2⟩:=hs.getD hlt
  exact Gives.val hD (by simp[Instr.extract,h1]) h2
 ·cases hD

/-! ### Literals -/

theorem RelVs.set:∀{l:List AV} {xs:List Value} {v:AV} {x:Value} (i:Nat),RelVs w F ρ H l xs→RelV w F ρ H v x→RelVs w F ρ H (l.set i v) (xs.set i x)
 |_,_,_,_,_,.nil,_=>.nil
 |_,_,_,_,0,.cons _ _ _ _ _ hs,hv=>.cons _ _ _ _ hv hs
 |_,_,_,_,i+1,.cons _ _ _ _ h hs,hv=>.cons _ _ _ _ h (hs.set i hv)

theorem setAll_rel:∀{vs:List AV} {ys:List Value} {l:List AV} {xs:Array Value} (off j:Nat),RelVs w F ρ H l xs.toList→RelVs w F ρ H vs ys→
  RelVs w F ρ H (setAll l (off+j) vs) ((ys.zipIdx j).foldl (fun cs (c,j)=>cs.setIfInBounds (off+j) c) xs).toList
 |_,_,_,_,_,_,h,.nil=>h
 |_,_,l,xs,off,j,h,.cons v vs y ys hv hs=>by
  simp only[List.zipIdx_cons,List.foldl_cons,setAll]
  have h1:RelVs w F ρ H (l.set (off+j) v) (xs.setIfInBounds (off+j) y).toList:=by
   rw[Array.toList_setIfInBounds];exact h.set _ hv
  have:=setAll_rel off (j+1) h1 hs
  rw[← Nat.add_assoc]at this
  exact this

theorem plain_inv {v:AV}(h:v.plain=true):(∀b u,v≠ .may b u)∧v≠ .undef:=by
 refine⟨fun b u e=>?_,fun e=>?_⟩<;>subst e<;>simp[AV.plain]at h

theorem fill_rel:∀{ps:List (Nat×Nat)} {vs:List AV} {ys:List Value} {z l:List AV} {zs:Array Value} {place:Nat→Option (Nat×Nat)} {ixs:List Nat},
  ixs.map place=ps.map some→RelVs w F ρ H vs ys→RelVs w F ρ H z zs.toList→fillL z ps vs=some l→
  ∃cs,Instr.fill place zs (ixs.zip ys)=some cs∧RelVs w F ρ H l cs.toList
 |[],vs,ys,z,l,zs,place,ixs,hp,hv,hz,hf=>by
  cases vs with
  |nil=>
   cases hv
   cases hf
   have:ixs=[]:=by simpa using hp
   subst this
   exact⟨zs,rfl,hz⟩
  |cons=>cases hf
 |(off,size)::ps,vs,ys,z,l,zs,place,ixs,hp,hv,hz,hf=>by
  cases vs with
  |nil=>cases hf
  |cons v vs=>
   cases hv with
   |cons _ _ y ys hv hs=>
    cases ixs with
    |nil=>simp at hp
    |cons ix ixs=>
     simp only[List.map_cons,List.cons.injEq]at hp
     obtain⟨hp1,hp2⟩:=hp
     simp only[fillL,cond_eq_ite]at hf
     split at hf
     ·rename_i hc
      simp only[Bool.and_eq_true]at hc
      obtain⟨c1,c2,c3⟩:=hc
      have c2:v.cs.length=size:=Nat.eq_of_beq_eq_true c2
      have c3:off+size≤z.length:=by simpa[len']using c3
      obtain⟨hm,hu⟩:=plain_inv c1
      have hcs:=hv.csOf hm hu
      have hyl:y.cells.size=size:=by have:=hcs.len;simp at this;omega
      have hzl:zs.size=z.length:=by have:=hz.len;simpa using this.symm
      have h1:RelVs w F ρ H (setAll z off v.cs) (y.cells.zipIdx.foldl (fun cs (c,j)=>cs.setIfInBounds (off+j) c) zs).toList:=by
       have:=setAll_rel off 0 hz hcs
       rw[← Array.foldl_toList,Array.toList_zipIdx]
       exact this
      obtain⟨cs,g1,g2⟩:=fill_rel hp2 hs h1 hf
      refine⟨cs,?_,g2⟩
      simp only[List.zip_cons_cons,Instr.fill,hp1]
      rw[if_neg (by simp[hyl];omega)]
      exact g1
     ·cases hf

/-! ### Nil tests -/

theorem opIsnil_sound (hl:∀id o,look id=some o→H id=some o){neq:Bool}{kd:Nat}{v:AV}{x:Value}(hx:RelV w F ρ H v x)(hD:opIsnil look neq kd v=some D)(hcs:AllC Sp D.cs):
  ∃b,D.v=.bool (negIf neq b)∧D.ws=[]∧D.al=[]∧((kd=0∧∃a l c,x=.slice a l c∧b=a.isNone)∨(kd=1∧((x=.nilFunc∧b=true)∨∃f a c,x=.func f a c∧b=false))∨
   (kd≠0∧kd≠1∧∃a,x=.pointer a∧b=a.isNone)):=by
 unfold opIsnil at hD
 split at hD
 ·split at hD
  ·rename_i id len
   split at hD
   ·rename_i k0 hk
    have hH:=hl _ _ hk
    split at hD
    ·rename_i nil hnil
     cases hx with
     |imm _ _ hi=>cases hi
     |full _ _ k1 _ hh hle hp hxx=>
      rw[hH]at hh;cases hh
      have h3:=val_cs hD;rw[h3]at hcs
      cases hD
      refine⟨_,rfl,rfl,rfl,.inl ⟨rfl,?_⟩⟩
      rcases hxx hcs.1 with⟨rfl,h2,_,rfl⟩|⟨rfl,h2,_,a,rfl⟩|⟨h2,b,cap,cs,ty,fz,p1,p2,rfl,p3,p4,p5⟩
      ·rw[hnil]at h2
       cases nil
       ·exact absurd rfl h2
       ·exact⟨_,_,_,rfl,rfl⟩
      ·rw[hnil]at h2
       cases nil
       ·exact⟨_,_,_,rfl,rfl⟩
       ·exact absurd rfl h2
      ·refine⟨_,_,_,rfl,?_⟩
       cases nil
       ·rfl
       ·have:=h2 hnil
        simp only[Bool.true_and]
        exact beq_ne (by omega)
    ·cases hD
   ·cases hD
  ·cases hD;cases hx with|imm _ _ hi=>cases hi;exact⟨_,rfl,rfl,rfl,.inl ⟨rfl,_,_,_,rfl,rfl⟩⟩
  ·have h3:=val_cs hD;rw[h3]at hcs
   cases hD
   cases hx with
   |imm _ _ hi=>
    cases hi with
    |imm=>exact⟨_,rfl,rfl,rfl,.inl ⟨rfl,_,_,_,rfl,rfl⟩⟩
    |imm0=>have:=hcs.1;simp[Cd.holds,ltn]at this
  ·cases hD
   cases hx with
   |imm _ _ hi=>cases hi
   |sl=>exact⟨_,rfl,rfl,rfl,.inl ⟨rfl,_,_,_,rfl,rfl⟩⟩
  ·cases hD
   cases hx with
   |imm _ _ hi=>cases hi with|nn=>exact⟨_,rfl,rfl,rfl,.inl ⟨rfl,_,_,_,rfl,rfl⟩⟩
  ·cases hD
 ·split at hD
  ·cases hD;cases hx with|imm _ _ hi=>cases hi;exact⟨_,rfl,rfl,rfl,.inr (.inl ⟨rfl,.inl ⟨rfl,rfl⟩⟩)⟩
  ·cases hD;obtain⟨xs,ys,rfl,_⟩:=hx.fns;exact⟨_,rfl,rfl,rfl,.inr (.inl ⟨rfl,.inr ⟨_,_,_,rfl,rfl⟩⟩)⟩
  ·cases hD
   cases hx with
   |imm _ _ hi=>cases hi
   |yld=>exact⟨_,rfl,rfl,rfl,.inr (.inl ⟨rfl,.inr ⟨_,_,_,rfl,rfl⟩⟩)⟩
  ·cases hD
 ·rename_i h0 h1
  split at hD
  ·cases hD;cases hx with|imm _ _ hi=>cases hi;exact⟨_,rfl,rfl,rfl,.inr (.inr ⟨h0,h1,_,rfl,rfl⟩)⟩
  ·cases hD
   cases hx with
   |imm _ _ hi=>cases hi
   |ptr=>exact⟨_,rfl,rfl,rfl,.inr (.inr ⟨h0,h1,_,rfl,rfl⟩)⟩
  ·cases hD
   cases hx with
   |imm _ _ hi=>cases hi with|iptr=>exact⟨_,rfl,rfl,rfl,.inr (.inr ⟨h0,h1,_,rfl,rfl⟩)⟩
  ·cases hD

/-! ### Extremes -/

theorem mmG_sound (max:Bool):∀{vs:List AV} {xs:List Value} {k:IntKind} {n:Int} {v:AV},RelVs w F ρ H vs xs→mmF.mmG max k n vs=some v→
  ∃x,((xs.foldlM (if max then Builtin.max2 else Builtin.min2) (Value.int k n):Sem Value)).run P w=.ok x w∧RelV w F ρ H v x
 |_,_,k,n,v,.nil,h=>by
  simp only[mmF.mmG]at h;cases h
  exact⟨_,rfl,relInt _ _⟩
 |_,_,k,n,v,.cons u us y ys hv hs,h=>by
  cases u<;>simp only[mmF.mmG,reduceCtorEq]at h
  case int k' m=>
   simp only[cond_eq_ite]at h
   split at h
   ·rename_i hk
    have hk:k=k':=by simpa[beqK]using hk
    subst hk
    have:=hv.ints;subst this
    obtain⟨x,h1,h2⟩:=mmG_sound max hs h
    refine⟨x,?_,h2⟩
    rw[← h1]
    cases max
    ·simp[Builtin.min2]
    ·simp[Builtin.max2]
   ·cases h

theorem mmF_sound {max:Bool}{vs:List AV}{xs:Array Value}{v:AV}{tys:Array TypeId}{ty:TypeId}(hs:RelVs w F ρ H vs xs.toList)(h:mmF max vs=some v):
  ∃x,((if max then Builtin.max_ else Builtin.min_) tys ty xs).run P w=.ok x w∧RelV w F ρ H v x:=by
 unfold mmF at h
 split at h
 ·cases h
 ·rename_i k n r
  generalize hl:xs.toList=l at hs
  cases hs with
  |cons _ _ y ys hv hr=>
   have:=hv.ints;subst this
   obtain⟨x,h1,h2⟩:=mmG_sound (P:=P) max hr h
   refine⟨x,?_,h2⟩
   rw[← h1]
   cases max
   ·simp only[Bool.false_eq_true,if_false,Builtin.min_,hl]
   ·simp only[if_true,Builtin.max_,hl]
 ·cases h

/-! ### Comparison, leaf by leaf -/

def aggD:TypeDesc→Bool
 |.struct _=>true
 |.array _ _=>true
 |_=>false
def fieldsT (P:Program)(g:TypeId→Nat→Option (List (Nat×Nat)))(size off:Nat):List Field→Option (List (Nat×Nat))
 |[]=>some []
 |f::r=>cond (f.name=="_") (fieldsT P g size off r) (match P.info? f.type with
  |some i=>cond (len' (f.offset+i.size) size) (match g f.type (off+f.offset),fieldsT P g size off r with
   |some a,some b=>some (a++b)
   |_,_=>none) none
  |none=>none)
def elemsT (g:TypeId→Nat→Option (List (Nat×Nat)))(e:TypeId)(sz off:Nat):List Nat→Option (List (Nat×Nat))
 |[]=>some []
 |i::r=>match g e (off+i*sz),elemsT g e sz off r with
  |some a,some b=>some (a++b)
  |_,_=>none
def leavesT (P:Program):Nat→TypeId→Nat→Option (List (Nat×Nat))
 |0,_,_=>none
 |d+1,t,off=>
  match P.underlying t,P.info? t with
  |some (.int _),some i=>cond (Nat.beq i.size 1) (some [(off,0)]) none
  |some .bool,some i=>cond (Nat.beq i.size 1) (some [(off,1)]) none
  |some .string,some i=>cond (Nat.beq i.size 1) (some [(off,2)]) none
  |some (.struct fs),some i=>cond (P.stoodInHeld t) none (fieldsT P (leavesT P d) i.size off fs.toList)
  |some (.array n e),some i=>match P.info? e with
   |some ie=>cond (Nat.beq i.size (n*ie.size)) (elemsT (leavesT P d) e ie.size off (List.range n)) none
   |none=>none
  |_,_=>none

theorem eqLeaves_cons {i kd:Nat}{r:List (Nat×Nat)}{xs ys:List AV}{b:Bool}(h:eqLeaves ((i,kd)::r) xs ys=some b):
  ∃a c,eqLeaf kd (xs.getD i .undef) (ys.getD i .undef)=some a∧eqLeaves r xs ys=some c∧b=(a&&c):=by
 cases r with
 |nil=>exact⟨b,true,h,rfl,by simp⟩
 |cons j r=>
  simp only[eqLeaves]at h
  split at h
  ·rename_i a c h1 h2
   cases h
   exact⟨a,c,h1,h2,rfl⟩
  ·cases h
theorem eqLeaves_app:∀{l r:List (Nat×Nat)} {xs ys:List AV} {b:Bool},eqLeaves (l++r) xs ys=some b→∃a c,eqLeaves l xs ys=some a∧eqLeaves r xs ys=some c∧b=(a&&c)
 |[],r,xs,ys,b,h=>⟨true,b,rfl,h,by simp⟩
 |(i,kd)::l,r,xs,ys,b,h=>by
  obtain⟨a,c,h1,h2,rfl⟩:=eqLeaves_cons h
  obtain⟨a',c',h3,h4,rfl⟩:=eqLeaves_app h2
  refine⟨a&&a',c',?_,h4,by rw[Bool.and_assoc]⟩
  cases l with
  |nil=>
   cases h3
   simpa[eqLeaves]using h1
  |cons j l=>
   obtain⟨j,kj⟩:=j
   simp only[eqLeaves,h1]
   rw[h3]

def PartOf (P:Program)(t:TypeId)(xs:Array Value)(off:Nat)(X:Value):Prop:=
 match P.underlying t with
 |some (.struct _)|some (.array _ _)=>∃i,P.info? t=some i∧off+i.size≤xs.size∧X=.agg (xs.extract off (off+i.size))
 |_=>xs[off]? =some X

theorem run_equalIn_leaf (d:Nat){t:TypeId}{u v:AV}{x y:Value}{b:Bool}{kd:Nat}(hx:RelV w F ρ H u x)(hy:RelV w F ρ H v y)(h:eqLeaf kd u v=some b)
  (hty:(kd=0∧∃k,P.underlying t=some (.int k))∨(kd=1∧P.underlying t=some .bool)∨(kd=2∧P.underlying t=some .string)):
  (Op.equalIn (d+1) t x y).run P w=.ok b w:=by
 rcases hty with⟨rfl,k0,h0⟩|⟨rfl,h0⟩|⟨rfl,h0⟩<;>simp only[eqLeaf]at h
 ·split at h
  ·rename_i k a k' c
   simp only[cond_eq_ite]at h
   split at h
   ·rename_i hk
    cases h
    have hk:k=k':=by simpa[beqK]using hk
    subst hk
    have:=hx.ints;subst this
    have:=hy.ints;subst this
    exact run_equalIn_int w d t k k0 a c h0
   ·cases h
  ·cases h
 ·split at h
  ·cases h
   have:=hx.bools;subst this
   have:=hy.bools;subst this
   exact run_equalIn_bool' w d t _ _ h0
  ·cases h
 ·split at h
  ·cases h
   obtain⟨s,rfl,hs⟩:=hx.strs
   obtain⟨r,rfl,hr⟩:=hy.strs
   rw[run_equalIn_string w d t s r h0,ByteArray.toList_eq,ByteArray.toList_eq,hs,hr]
  ·cases h

def Op.eqElems (d:Nat)(e:TypeId)(n:Nat)(xs ys:Array Value):List Nat→Sem Bool
 |[]=>pure true
 |i::r=>do
  let a ← part e xs (i*n)
  let b ← part e ys (i*n)
  let q ← Op.equalIn d e a b
  if(!q)=true then pure false else Op.eqElems d e n xs ys r

theorem run_equalIn_array (d:Nat)(t e:TypeId)(len:Nat)(ie:TypeInfo)(xs ys:Array Value)(ht:P.underlying t=some (.array len e))(hi:P.info? e=some ie):
  (Op.equalIn (d+1) t (.agg xs) (.agg ys)).run P w=(Op.eqElems d e ie.size xs ys (List.range len)).run P w:=by
 have h1:∀(l:List Nat) (w:World),((do
   for i in l do
    if !(← Op.equalIn d e (← part e xs (i*ie.size)) (← part e ys (i*ie.size)))then return false
   pure true:Sem Bool)).run P w=(Op.eqElems d e ie.size xs ys l).run P w:=by
  intro l
  induction l with
  |nil=>intro w;simp[Op.eqElems]
  |cons i l ih=>
   intro w
   simp only[List.forIn_cons,Op.eqElems,Sem.run_bind,Sem.run_ite]
   generalize (part e xs (i*ie.size)).run P w=r1
   cases r1 with
   |ok a w1=>
    simp only[Result.andThen_ok]
    generalize (part e ys (i*ie.size)).run P w1=r2
    cases r2 with
    |ok b w2=>
     simp only[Result.andThen_ok]
     generalize (Op.equalIn d e a b).run P w2=r3
     cases r3 with
     |ok r w3=>
      cases r
      ·simp only[Result.andThen_ok,Bool.not_false,if_true,Sem.run_pure]
      ·simp only[Result.andThen_ok,Bool.not_true,Bool.false_eq_true,if_false,Sem.run_pure]
       have:=ih w3
       simp only[Sem.run_bind]at this
       exact this
     |halt x w3=>simp[Result.andThen]
    |halt x w2=>simp[Result.andThen]
   |halt x w1=>simp[Result.andThen]
 rw[← h1]
 simp only[Op.equalIn,Sem.run_bind,run_underlying' ht,Result.andThen_ok,run_sizeOf' hi]
 rw[Std.Legacy.Range.forIn_eq_forIn_range']
 simp[List.range_eq_range']

theorem extract_extract' (xs:Array Value)(off n a m:Nat)(h:a+m≤n)(hn:off+n≤xs.size):(xs.extract off (off+n)).extract a (a+m)=xs.extract (off+a) (off+a+m):=by
 rw[Array.extract_extract]
 congr 1
 omega

theorem run_part_of {t:TypeId}{i:TypeInfo}{d:TypeDesc}(hd:P.underlying t=some d)(hi:P.info? t=some i){xs:Array Value}{off n a:Nat}(hn:off+n≤xs.size)(ha:a+i.size≤n)
  (h1:aggD d=false→i.size=1):
  ∃X,(part t (xs.extract off (off+n)) a).run P w=.ok X w∧PartOf P t xs (off+a) X:=by
 by_cases hagg:aggD d=true
 ·refine⟨.agg (xs.extract (off+a) (off+a+i.size)),?_,?_⟩
  ·have:(isAgg t).run P w=.ok true w:=by
    simp only[isAgg,Sem.run_bind,run_underlying' hd,Result.andThen_ok]
    cases d<;>simp[aggD]at hagg<;>rfl
   simp only[part,Sem.run_bind,this,Result.andThen_ok,if_true,run_sizeOf' hi,Sem.run_pure]
   rw[extract_extract' xs off n a i.size ha hn]
  ·unfold PartOf
   rw[hd]
   cases d<;>simp[aggD]at hagg
   ·exact⟨i,hi,by omega,rfl⟩
   ·exact⟨i,hi,by omega,rfl⟩
 ·have hs:i.size=1:=h1 (by simpa using hagg)
  have hlt:off+a<xs.size:=by omega
  refine⟨xs[off+a],?_,?_⟩
  ·have:(isAgg t).run P w=.ok false w:=by
    simp only[isAgg,Sem.run_bind,run_underlying' hd,Result.andThen_ok]
    cases d<;>simp[aggD]at hagg<;>rfl
   have h2:(xs.extract off (off+n))[a]? =some xs[off+a]:=by
    rw[Array.getElem?_extract]
    rw[if_pos (by omega)]
    simp[hlt]
   simp only[part,Sem.run_bind,this,Result.andThen_ok,Bool.false_eq_true,if_false,h2,Sem.run_pure]
  ·unfold PartOf
   rw[hd]
   cases d<;>simp[aggD]at hagg ⊢<;>exact⟨hlt,rfl⟩

theorem leaf_size {d:Nat}{t:TypeId}{off:Nat}{ls:List (Nat×Nat)}(h:leavesT P d t off=some ls):∃dd i,P.underlying t=some dd∧P.info? t=some i∧(aggD dd=false→i.size=1):=by
 cases d with
 |zero=>cases h
 |succ d=>
  simp only[leavesT]at h
  split at h
  ·rename_i k i hd hi
   refine⟨_,_,hd,hi,fun _=>?_⟩
   simp only[cond_eq_ite]at h
   split at h
   ·rename_i he;exact Nat.eq_of_beq_eq_true he
   ·cases h
  ·rename_i i hd hi
   refine⟨_,_,hd,hi,fun _=>?_⟩
   simp only[cond_eq_ite]at h
   split at h
   ·rename_i he;exact Nat.eq_of_beq_eq_true he
   ·cases h
  ·rename_i i hd hi
   refine⟨_,_,hd,hi,fun _=>?_⟩
   simp only[cond_eq_ite]at h
   split at h
   ·rename_i he;exact Nat.eq_of_beq_eq_true he
   ·cases h
  ·rename_i fs i hd hi
   exact⟨_,_,hd,hi,fun h=>by cases h⟩
  ·rename_i n e i hd hi
   exact⟨_,_,hd,hi,fun h=>by cases h⟩
  ·cases h

theorem leavesT_sound {lx ly:List AV}{xs ys:Array Value}(hx:RelVs w F ρ H lx xs.toList)(hy:RelVs w F ρ H ly ys.toList):
  ∀(d:Nat) (t:TypeId) (off:Nat) (ls:List (Nat×Nat)) (b:Bool) (X Y:Value),leavesT P d t off=some ls→eqLeaves ls lx ly=some b→PartOf P t xs off X→PartOf P t ys off Y→
   ∀D,d≤D→(Op.equalIn D t X Y).run P w=.ok b w:=by
 have hxl:xs.size=lx.length:=by have:=hx.len;simpa using this.symm
 have hyl:ys.size=ly.length:=by have:=hy.len;simpa using this.symm
 intro d
 induction d with
 |zero=>intro t off ls b X Y h;cases h
 |succ d ih=>
  intro t off ls b X Y h hb hX hY D hD
  obtain⟨D,rfl⟩:∃D',D=D'+1:=⟨D-1,by omega⟩
  have hD:d≤D:=by omega
  have leaf:∀kd,ls=[(off,kd)]→xs[off]? =some X→ys[off]? =some Y→
    ((kd=0∧∃k,P.underlying t=some (.int k))∨(kd=1∧P.underlying t=some .bool)∨(kd=2∧P.underlying t=some .string))→(Op.equalIn (D+1) t X Y).run P w=.ok b w:=by
   intro kd e hX hY hk
   subst e
   obtain⟨a,c,h1,h2,rfl⟩:=eqLeaves_cons hb
   cases h2
   rw[Bool.and_true]
   have hlx:off<lx.length:=by rw[← hxl];exact(Array.getElem?_eq_some_iff.1 hX).1
   have hly:off<ly.length:=by rw[← hyl];exact(Array.getElem?_eq_some_iff.1 hY).1
   obtain⟨x,p1,p2⟩:=hx.getD hlx
   obtain⟨y,q1,q2⟩:=hy.getD hly
   rw[hX]at p1;cases p1
   rw[hY]at q1;cases q1
   exact run_equalIn_leaf D p2 q2 h1 hk
  simp only[leavesT]at h
  split at h
  ·rename_i k i hd hi
   simp only[cond_eq_ite]at h
   split at h
   ·cases h
    unfold PartOf at hX hY;rw[hd]at hX hY
    exact leaf 0 rfl hX hY (.inl ⟨rfl,k,hd⟩)
   ·cases h
  ·rename_i i hd hi
   simp only[cond_eq_ite]at h
   split at h
   ·cases h
    unfold PartOf at hX hY;rw[hd]at hX hY
    exact leaf 1 rfl hX hY (.inr (.inl ⟨rfl,hd⟩))
   ·cases h
  ·rename_i i hd hi
   simp only[cond_eq_ite]at h
   split at h
   ·cases h
    unfold PartOf at hX hY;rw[hd]at hX hY
    exact leaf 2 rfl hX hY (.inr (.inr ⟨rfl,hd⟩))
   ·cases h
  ·rename_i fs i hd hi
   simp only[cond_eq_ite]at h
   split at h
   ·cases h
   ·rename_i hstood
    have hstood:P.stoodInHeld t=false:=by simpa using hstood
    unfold PartOf at hX hY;rw[hd]at hX hY
    obtain⟨i',hi',hxs,rfl⟩:=hX
    obtain⟨i'',hi'',hys,rfl⟩:=hY
    rw[hi]at hi' hi'';cases hi';cases hi''
    have hfo:P.fieldsOf t=fs:=by simp[Program.fieldsOf,hd]
    rw[run_equalIn_struct w D t _ _ (by rw[hfo];exact hd) hstood,hfo]
    generalize fs.toList=fl at h
    clear hd hfo leaf
    induction fl generalizing ls b with
    |nil=>cases h;cases hb;rfl
    |cons f fl ihf=>
     simp only[fieldsT,cond_eq_ite]at h
     simp only[Op.eqFields]
     by_cases hn:f.name="_"
     ·simp only[hn,BEq.rfl,if_true]at h
      simp only[hn,ne_eq,not_true_eq_false,if_false]
      exact ihf ls b hb h
     ·have hn':¬ (f.name=="_")=true:=by simpa using hn
      rw[if_neg hn']at h
      rw[if_pos hn]
      split at h
      ·rename_i fi hfi
       split at h
       ·rename_i hle
        have hle:f.offset+fi.size≤i.size:=by simpa[len']using hle
        split at h
        ·rename_i a c ha hc
         cases h
         obtain⟨q1,q2,e1,e2,rfl⟩:=eqLeaves_app hb
         obtain⟨dd,fi',g1,g2,g3⟩:=leaf_size ha
         rw[hfi]at g2;cases g2
         obtain⟨X',r1,r2⟩:=run_part_of (w:=w) g1 hfi hxs hle g3
         obtain⟨Y',s1,s2⟩:=run_part_of (w:=w) g1 hfi hys hle g3
         have:=ih f.type (off+f.offset) a q1 X' Y' ha e1 r2 s2 D hD
         simp only[Sem.run_bind,r1,s1,Result.andThen_ok,this]
         cases q1
         ·simp
         ·simp only[Bool.not_true,Bool.false_eq_true,if_false,Bool.true_and]
          exact ihf c q2 e2 hc
        ·cases h
       ·cases h
      ·cases h
  ·rename_i n e i hd hi
   split at h
   ·rename_i ie hie
    simp only[cond_eq_ite]at h
    split at h
    ·rename_i hsz
     have hsz:i.size=n*ie.size:=Nat.eq_of_beq_eq_true hsz
     unfold PartOf at hX hY;rw[hd]at hX hY
     obtain⟨i',hi',hxs,rfl⟩:=hX
     obtain⟨i'',hi'',hys,rfl⟩:=hY
     rw[hi]at hi' hi'';cases hi';cases hi''
     rw[run_equalIn_array D t e n ie _ _ hd hie]
     have hall:∀j∈List.range n,j*ie.size+ie.size≤i.size:=by
      intro j hj
      have hj:j<n:=by simpa using hj
      have:j+1≤n:=hj
      have:=Nat.mul_le_mul_right ie.size this
      rw[hsz];rw[Nat.add_mul]at this;omega
     generalize List.range n=l at h hall
     clear hd leaf
     induction l generalizing ls b with
     |nil=>cases h;cases hb;rfl
     |cons j l ihl=>
      simp only[elemsT]at h
      split at h
      ·rename_i a c ha hc
       cases h
       obtain⟨q1,q2,e1,e2,rfl⟩:=eqLeaves_app hb
       obtain⟨dd,fi',g1,g2,g3⟩:=leaf_size ha
       rw[hie]at g2;cases g2
       have hj:=hall j (by simp)
       obtain⟨X',r1,r2⟩:=run_part_of (w:=w) g1 hie hxs hj g3
       obtain⟨Y',s1,s2⟩:=run_part_of (w:=w) g1 hie hys hj g3
       have:=ih e (off+j*ie.size) a q1 X' Y' ha e1 r2 s2 D hD
       simp only[Op.eqElems,Sem.run_bind,r1,s1,Result.andThen_ok,this]
       cases q1
       ·simp
       ·simp only[Bool.not_true,Bool.false_eq_true,if_false,Bool.true_and]
        exact ihl c q2 e2 hc (fun j hj=>hall j (by simp[hj]))
      ·cases h
    ·cases h
   ·cases h
  ·cases h

theorem opEqa_sound {neq:Bool}{ls:List (Nat×Nat)}{u v:AV}{x y:Value}{t:TypeId}{o1 o2:Operand}{i:TypeInfo}(hl:leavesT P 16 t 0=some ls)(hg:P.eqGuardType P.depth t=false)(hi:P.info? t=some i)
  (hd:∃d,P.underlying t=some d∧aggD d=true)
  (hx:RelV w F ρ H u x) (hy:RelV w F ρ H v y) (hD:opEqa neq i.size ls u v=some D):
  Gives F ρ H w ((do eqGuard (if neq then .neq else .eql) t o1 o2 x y;binOp (if neq then .neq else .eql) t x y:Sem Value).run P w) D:=by
 unfold opEqa at hD
 split at hD
 ·rename_i a b
  obtain⟨xs,rfl,hx'⟩:=hx.aggs
  obtain⟨ys,rfl,hy'⟩:=hy.aggs
  simp only[cond_eq_ite]at hD
  split at hD
  case isFalse=>cases hD
  rename_i hlens
  simp only[Bool.and_eq_true]at hlens
  have hxs:a.length=i.size:=Nat.eq_of_beq_eq_true hlens.1
  have hys:b.length=i.size:=Nat.eq_of_beq_eq_true hlens.2
  split at hD
  ·rename_i r hr
   have hxl:xs.size=i.size:=by have:=hx'.len;rw[hxs]at this;simpa using this.symm
   have hyl:ys.size=i.size:=by have:=hy'.len;rw[hys]at this;simpa using this.symm
   have hp:∀zs:Array Value,zs.size=i.size→PartOf P t zs 0 (.agg zs):=by
    intro zs hz
    obtain⟨d,hd1,hd2⟩:=hd
    unfold PartOf
    rw[hd1]
    have he:zs.extract 0 (0+i.size)=zs:=by rw[Nat.zero_add,← hz];simp
    cases d<;>simp[aggD]at hd2
    ·exact⟨i,hi,by omega,by rw[he]⟩
    ·exact⟨i,hi,by omega,by rw[he]⟩
   have he:=leavesT_sound (P:=P) hx' hy' 16 t 0 ls r _ _ hl hr (hp xs hxl) (hp ys hyl) 10000 (by omega)
   cases neq
   ·refine Gives.val hD ?_ (relBool _)
    simp only[Bool.false_eq_true,if_false,Sem.run_bind,run_eqGuard_agg w _ t _ _ xs ys hg,Result.andThen_ok,run_eql_struct,he,negIf]
   ·refine Gives.val hD ?_ (relBool _)
    simp only[if_true,Sem.run_bind,run_eqGuard_agg w _ t _ _ xs ys hg,Result.andThen_ok,run_neq_struct,he,negIf]
  ·cases hD
 ·cases hD

end
end Go.Ab
