/-
 What the functions of the reductions compute.
-/
import Derived.Test.YthiammkiobbclaaGreatDoorDZ
set_option maxRecDepth 1000000
set_option linter.unusedVariables false
namespace Go.Proofs.YthiammkiobbclaaGreatDoor.X
open Go Go.Ab
def gt (l:List Int)(i:Nat):Int:=l[i]?.getD 0
def stB (a k:List Int)(i:Nat):Bool:=
 !(gt k i==gt k ((i+1)%a.length))&&(decide (gt a i<=gt a ((i+a.length-1)%a.length))&&decide (gt a i<=gt a ((i+1)%a.length)))
def A1J (a k:List Int):List Nat:=if a.length<4 then[]else(List.range a.length).filter (stB a k)
def A2K (n i j:Nat):Bool:= !(j==i||j==(i+1)%n)
def B3T (a:List Int)(i j:Nat):Int:=if j==(i+a.length-1)%a.length then gt a j+(gt a ((i+1)%a.length)-gt a i)else gt a j
def A2v (n i m:Nat):List Nat:=(List.range m).filter (A2K n i)
def A1s (a:List Int)(i:Nat):List Int:=(A2v a.length i a.length).map (B3T a i)
def A1R (k:List Int)(i:Nat):List Int:=(A2v k.length i k.length).map (gt k)
def base (a k:List Int):Bool:=a.length==0||(a.length==2&&(gt a 0==gt a 1&&gt k 0==gt k 1))
def A7f:Nat->List Int->List Int->List Nat×(List Int×List Int)
 |0,a,k=>([],a,k)
 |n+1,a,k=>match A1J a k with
  |[]=>([],a,k)
  |i::_=>(i::(A7f n (A1s a i) (A1R k i)).1,(A7f n (A1s a i) (A1R k i)).2)
def A2A (a k:List Int):Bool:=base (A7f a.length a k).2.1 (A7f a.length a k).2.2
def inL (l:List Nat):List Int:=l.map Int.ofNat
def stI (a k:List Int):List Int:=inL (A1J a k)
def rdI (a k:List Int):List Int:=inL (A7f a.length a k).1
def rdA (a k:List Int):List Int:=(A7f a.length a k).2.1
def rdK (a k:List Int):List Int:=(A7f a.length a k).2.2
def okF:List Int->List Int->Int->Bool
 |x::a,y::k,s=>decide (1<=x)&&(decide (x<=s)&&((y==1||y==2)&&okF a k (s-x)))
 |[],[],_=>true
 |_,_,_=>false
def bLs (b:Bool)(l:List Int):List Int:=cond b l []
def okD (a k:List Int):Bool:=dcd a k==0
def isS (a k:List Int)(i:Int):Bool:=A1q (stI a k) i
structure L38 where (i:Int)(l:List Int)
def l38 (a k:List Int):LpS L38 where
 ov b:=[(20,.int .i64 b.i),(5,.full 9001 b.l.length)]
 bk b:=[(9001,.blk (B8i b.l))]
 rd S:=match aget S.t 20,aget S.h 9001 with
  |some (.int _ i),some (.blk ⟨.ints _ l,_,_,_,_,_,_⟩)=>some ⟨i,l⟩
  |_,_=>none
 pre b:=∃n:Nat,b.i=n/\n<=a.length/\b.l=inL ((List.range n).filter (stB a k))
 mu b:=a.length-b.i.toNat
def A10 (k:IntKind)(l:List Int):AV:=.imm (.ints k l) l.length (some l.length)
def A3X (k:IntKind)(l:List Int):AV:=.imm (.ints k l) l.length none
def e38:CtE
 |[.agg [.imm (.ints .i64 a) n _,.imm (.ints .u8 k) m _]]=>some ⟨A10 .i64 (stI a k),[],some (n=a.length/\m=k.length/\k.length=a.length/\a.length<1000000000)⟩
 |_=>none
structure L40 where (i:Int)(a k:List Int)
def l40 (a k:List Int)(at_:Nat):LpS L40 where
 ov b:=[(16,.int .i64 b.i)]
 bk b:=[(256,.blk ⟨.cells [.full 9001 b.a.length,.full 9002 b.k.length],2,1,none,some false,true,true⟩),(9001,.blk (B8i b.a)),(9002,.blk (C35 b.k))]
 rd S:=match aget S.t 16,aget S.h 9001,aget S.h 9002 with
  |some (.int _ i),some (.blk ⟨.ints _ a,_,_,_,_,_,_⟩),some (.blk ⟨.ints _ k,_,_,_,_,_,_⟩)=>some ⟨i,a,k⟩
  |_,_,_=>none
 pre b:=∃n:Nat,b.i=n/\n<=a.length/\b.a=(A2v a.length at_ n).map (B3T a at_)/\b.k=(A2v a.length at_ n).map (gt k)
 mu b:=a.length-b.i.toNat
def e40:CtE
 |[.agg [.imm (.ints .i64 a) n _,.imm (.ints .u8 k) m _],.int .i64 i]=>some ⟨.agg [A10 .i64 (A1s a i.toNat),A10 .u8 (A1R k i.toNat)],[],some (n=a.length/\m=k.length/\okF a k 8=true/\2<=a.length/\0<=i/\i<a.length)⟩
 |_=>none
def tlC:List (Nat×CtE):=(64,e38)::(63,e37)::tlB
def tlD:List (Nat×CtE):=(65,e40)::tlC
def enc:List Int->List Int->Nat->Nat
 |x::a,y::k,s=>enc a k ((s*3+y.toNat)*3 ^ (x.toNat-1))
 |_,_,s=>s
def tab:Nat:=697241616572949329040471989704443189092266398381892888099342440982237839880830032089150586457625600772156721258830302175138782440084631114748162112008054835867813241520522018197723047147310189947345521891902769308581886166339737959682985873323778167206249717349961269419271390048978989148458305649370816216308163555694923326473816787180509308525441114488584207524861135335881508792271378409278425596077782177717918464536295085190894998339624490566047173509677731301880797523263067376339340305631445991210010788074572986690087591047573533414119217177345101435971390053881077949204041110854290519226150911532942828138133390313659906207365784677076898922712721660835201392030349199978555244364956749457100573936899561883235285310211896111116959361885645859264401727202465829053021018420271074847695887590594930667082301018807596644668496251888918537403344672509275382103685075626658521370406420181723648254171319799120255528617090511558259938673307050793675803655762556370171724311910822952105287921909980191794202998128068568626954215808097569649956100289331722949070064746983598915985400212625307046391481396118370731194129824077371275827566659537282976923379744619191386139705779468719411782074488970277045882578724928256577231384999518877492881069516248796635896759311787145764488074590084000157813878243918070677864398171967213602228898881632041765296215561640914802533508644206181399507923182991698151345235205129385751565979734714618538864706830391355351060220929215664331476790643162875763665079544442096254442663615867050689856946068042223056354614619973152308360532828920818427565008899737103935623775138873885492375784948011126960761169789207690433194189664736744597512906550478797103986475798366957426223617768881554108365937852089389924305056751205030046709396392743576732230660582790883438819127245822619528474593562203198363174288120405866380449987180829004969649336769152907477618673572399888941016714587705339118472337992762506352226528073311506885788041489
def look (a k:List Int):Bool:=tab.testBit (enc a k 0)
def C8o (a k:List Int):Bool:=
 match A1J a k with
  |[]=>base a k==look a k
  |l=>l.all fun i=>okF (A1s a i) (A1R k i) 8&&look (A1s a i) (A1R k i)==look a k
def B9f (p:List Int->List Int->Bool):Nat->List Int->List Int->Nat->Bool
 |0,_,_,_=>true
 |f+1,a,k,s=>p a k&&(List.range s).all fun x=>B9f p f (a++[(x:Int)+1]) (k++[1]) (s-(x+1))&&B9f p f (a++[(x:Int)+1]) (k++[2]) (s-(x+1))
theorem A5l {p:List Int->List Int->Bool}:∀(a k:List Int) (f s:Nat) (a0 k0:List Int),a.length<f->B9f p f a0 k0 s=true->okF a k s=true->p (a0++a) (k0++k)=true
 |[],[],f+1,s,a0,k0,hf,h,ho=>by
  simp only[B9f,Bool.and_eq_true]at h;simpa using h.1
 |x::a,y::k,f+1,s,a0,k0,hf,h,ho=>by
  simp only[B9f,Bool.and_eq_true,List.all_eq_true,List.mem_range]at h;simp only[okF,Bool.and_eq_true,Bool.or_eq_true,beq_iff_eq,decide_eq_true_eq]at ho;obtain⟨h1,h2,h3,h4⟩:=ho;have hx:=h.2 (x.toNat-1) (by omega);have e1:((x.toNat-1:Nat):Int)+1=x:=by omega
  have e2:((s-(x.toNat-1+1):Nat):Int)=(s:Int)-x:=by omega
  rw[e1]at hx;have hl:a.length<f:=by simp at hf;omega
  rcases h3 with rfl|rfl
  ·simpa using A5l a k f _ _ _ hl hx.1 (by rw[e2];exact h4)
  ·simpa using A5l a k f _ _ _ hl hx.2 (by rw[e2];exact h4)
 |[],y::k,f,s,a0,k0,hf,h,ho=>by simp[okF]at ho
 |x::a,[],f,s,a0,k0,hf,h,ho=>by simp[okF]at ho
theorem A4t:∀{a k:List Int} {s:Int},okF a k s=true->k.length=a.length/\(0<=s->(a.length:Int)<=s)
 |[],[],s,h=>⟨rfl,fun h=>by simpa using h⟩
 |x::a,y::k,s,h=>by
  simp only[okF,Bool.and_eq_true,Bool.or_eq_true,beq_iff_eq,decide_eq_true_eq]at h;obtain⟨h1,h2,_,h4⟩:=h;have:=A4t h4;exact⟨by simp[this.1],fun _=>by have:=this.2 (by omega);simp;omega⟩
 |[],y::k,s,h=>by simp[okF]at h
 |x::a,[],s,h=>by simp[okF]at h
theorem D5O:B9f C8o 9 [] [] 8=true:=by decide +kernel
theorem B60 {a k:List Int}(h:okF a k 8=true):C8o a k=true:=by
 have:=(A4t h).2 (by omega);simpa using A5l a k 9 8 [] [] (by omega) D5O h
theorem B61 {a k:List Int}{i:Nat}(h:okF a k 8=true)(hi:i∈A1J a k):okF (A1s a i) (A1R k i) 8=true/\look (A1s a i) (A1R k i)=look a k:=by
 have hc:=B60 h;unfold C8o at hc;split at hc
 ·rename_i e;rw[e]at hi;cases hi
 ·simp only[List.all_eq_true,Bool.and_eq_true,beq_iff_eq]at hc;exact hc i hi
theorem B62 {a k:List Int}(h:okF a k 8=true)(hi:A1J a k=[]):base a k=look a k:=by
 have hc:=B60 h;unfold C8o at hc;rw[hi]at hc;simpa using hc
theorem A57 {a k:List Int}{i:Nat}(hi:i∈A1J a k):4<=a.length/\i<a.length:=by
 unfold A1J at hi;split at hi
 ·cases hi
 ·simp at hi;omega
theorem A58 {a:List Int}{i:Nat}(hi:i<a.length):(A1s a i).length<a.length:=by
 have:(A2v a.length i a.length).length<(List.range a.length).length:=by
  unfold A2v;rw[List.length_filter_lt_length_iff_exists];exact⟨i,by simpa using hi,by simp[A2K]⟩
 simpa[A1s]using this
theorem B63:∀(n:Nat) (a k:List Int),a.length<=n->okF a k 8=true->base (A7f n a k).2.1 (A7f n a k).2.2=look a k/\okF (A7f n a k).2.1 (A7f n a k).2.2 8=true/\A1J (A7f n a k).2.1 (A7f n a k).2.2=[]
 |0,a,k,hl,h=>by
  obtain rfl:a=[]:=List.length_eq_zero_iff.1 (by omega);exact⟨B62 h rfl,h,rfl⟩
 |n+1,a,k,hl,h=>by
  unfold A7f;split
  ·rename_i e;exact⟨B62 h e,h,e⟩
  ·rename_i i r e;have hi:i∈A1J a k:=by rw[e];simp
   obtain⟨h1,h2⟩:=B61 h hi;have h3:=A58 (A57 hi).2;have:=B63 n _ _ (by omega) h1;simpa[h2]using this
theorem B64 {a k:List Int}(h:okF a k 8=true):A2A a k=look a k:=(B63 _ a k (Nat.le_refl _) h).1
theorem B1h:∀(n m:Nat) (a k:List Int),a.length<=n->a.length<=m->A7f n a k=A7f m a k
 |0,0,a,k,h1,h2=>rfl
 |0,m+1,a,k,h1,h2=>by
  obtain rfl:a=[]:=List.length_eq_zero_iff.1 (by omega);rfl
 |n+1,0,a,k,h1,h2=>by
  obtain rfl:a=[]:=List.length_eq_zero_iff.1 (by omega);rfl
 |n+1,m+1,a,k,h1,h2=>by
  unfold A7f;split
  ·rfl
  ·rename_i i r e;have hi:i∈A1J a k:=by rw[e];simp
   have h3:=A58 (A57 hi).2;rw[B1h n m _ _ (by omega) (by omega)]
theorem C1T {a k:List Int}(h:A1J a k=[]):A7f a.length a k=([],a,k):=by
 cases a with
 |nil=>rfl
 |cons x r=>simp only[List.length_cons];unfold A7f;rw[h]
theorem B9g {a k:List Int}{i:Nat}{r:List Nat}(h:A1J a k=i::r):A7f a.length a k=(i::(A7f (A1s a i).length (A1s a i) (A1R k i)).1,(A7f (A1s a i).length (A1s a i) (A1R k i)).2):=by
 have hi:i∈A1J a k:=by rw[h];simp
 have h3:=A58 (A57 hi).2;cases a with
 |nil=>simp at h3
 |cons x r'=>
  simp only[List.length_cons]at h3 ⊢
  conv=>lhs;unfold A7f
  rw[h];simp only;rw[B1h r'.length (A1s (x::r') i).length _ _ (by omega) (Nat.le_refl _)]
def A0r (l:List Int)(n:Nat):List Int:=l.drop n++l.take n
def A0j (k:List Int):List Int:=A0r k.reverse (k.length-1)
def A29 (k:List Int):List Int:=k.map fun x=>if x=1\/x=2 then 3-x else x
theorem B1i {l:List Int}{n:Nat}(h:n<l.length):A0r l (n+1)=A0r (A0r l n) 1:=by
 have e:l.drop n=l[n]::l.drop (n+1):=List.drop_eq_getElem_cons h;have e2:A0r l n=l[n]::(l.drop (n+1)++l.take n):=by unfold A0r;rw[e];rfl
 rw[e2];unfold A0r;rw[<- List.take_append_getElem h];simp
def A2j (k:IntKind)(a:List Int):Blk:=⟨.ints k a,1,a.length,none,some false,true,false⟩
def B5d (k:IntKind)(by_:Int):CtE
 |[.nils,.int .i64 n]=>some ⟨.full 0 0,[A2j k []],some (0<n/\n<1000000000000)⟩
 |_=>none
def C37 (k:IntKind):CtE
 |[.imm (.vals [.imm (.ints k1 x) n none,.imm (.ints k2 y) m none]) 2 _]=>cond (A3A k1 k&&A3A k2 k) (some ⟨.full 0 (x++y).length,[A2j k (x++y)],some (n=x.length/\m=y.length/\0<x.length+y.length/\x.length+y.length<100000000000)⟩) none
 |_=>none
def chT (k:IntKind)(id f1 f2:Nat)(h:List (Nat×HO))(cv:AV)(args:List AV):Option Cx:=
 match cv,args,aget h id with
 |.fn f [] [],[.full i n],some (.blk ⟨.ints _ l,_,_,_,_,_,_⟩)=>cond (Nat.beq i id&&Nat.beq f f1) (some ⟨.fullc id n n,[],some (h=[(id,.blk (A2j k l))]/\n=l.length)⟩) none
 |.fn f [] [],[.fullc i n c],some (.blk ⟨.ints _ l,_,_,_,_,_,_⟩)=>cond (Nat.beq i id&&Nat.beq f f2) (some ⟨.tup [],[(id,.blk (A2j k l.reverse))],some (h=[(id,.blk (A2j k l))]/\n=l.length/\c=l.length/\l.length<1000000000000)⟩) none
 |_,_,_=>none
def C8p (k:IntKind)(id f1:Nat)(h:List (Nat×HO))(cv:AV)(args:List AV):Option Cx:=
 match cv,args,aget h id with
 |.fn f [] [],[.full i n],some (.blk ⟨.ints _ l,_,_,_,_,_,_⟩)=>cond (Nat.beq i id&&Nat.beq f f1) (some ⟨.fullc id n n,[],some (h=[(id,.blk (A2j k l))]/\n=l.length)⟩) none
 |_,_,_=>none
def A8o (k:IntKind):CtE
 |[.imm (.ints k1 a) n _,.int .i64 i]=>cond (A3A k1 k) (some ⟨.fullc 0 (A0r a i.toNat).length (A0r a i.toNat).length,[A2j k (A0r a i.toNat)],some (n=a.length/\0<a.length/\a.length<100000000000/\0<=i/\i<=a.length)⟩) none
 |_=>none
def A4u (k:IntKind):CtE
 |[.imm (.ints k1 a) n _]=>cond (A3A k1 k) (some ⟨.full 0 a.length,[A2j k a],some (n=a.length/\0<a.length/\a.length<100000000000)⟩) none
 |_=>none
def A5m (k:IntKind):CtE
 |[.imm (.ints k1 a) n _]=>cond (A3A k1 k) (some ⟨.imm (.ints k []) 0 none,[],some (n=0/\a=[])⟩) none
 |_=>none
def B5e (k:IntKind):CtE
 |[.imm (.ints k1 a) n _]=>cond (A3A k1 k) (some ⟨.tup [],[],some (n=0/\a=[])⟩) none
 |_=>none
def A5n (k:IntKind):CtE
 |[.imm (.ints k1 a) n _]=>cond (A3A k1 k) (some ⟨.imm (.ints k a.reverse) a.length (some a.length),[],some (n=a.length/\a.length<100000000000)⟩) none
 |_=>none
structure L68 where (i j:Int)(l:List Int)
def l68 (k:IntKind)(a:List Int):LpS L68 where
 ov b:=[(2,.int .i64 b.i),(3,.int .i64 b.j)]
 bk b:=[(8256,.blk (A2j k b.l))]
 rd S:=match aget S.t 2,aget S.t 3,aget S.h 8256 with
  |some (.int _ i),some (.int _ j),some (.blk ⟨.ints _ l,_,_,_,_,_,_⟩)=>some ⟨i,j,l⟩
  |_,_,_=>none
 pre b:=∃n:Nat,b.i=n/\b.j=(a.length:Int)-1-n/\2*n<=a.length+1/\b.l.length=a.length/\∀m,m<a.length->b.l[m]?.getD 0=if m<n\/a.length<=m+n then a[a.length-1-m]?.getD 0 else a[m]?.getD 0
 mu b:=a.length-b.i.toNat
def uA:List (Nat×CtE):=(88,B5d .i64 8)::(89,B5d .u8 1)::tlD
def UA:Tab:=A2t uA A3E
def uB:List (Nat×CtE):=(66,C37 .i64)::(68,C37 .u8)::uA
def D4y:Tab:=A2t uB (C8p .i64 8640 40)
def D4z:Tab:=A2t uB (C8p .u8 8640 67)
def uP:List (Nat×CtE):=(41,A4u .i64)::(70,A4u .u8)::uB
def D4A:Tab:=A2t uP (chT .i64 8256 40 69)
def D4B:Tab:=A2t uP (chT .u8 8256 67 71)
def uZ:List (Nat×CtE):=(41,A5m .i64)::(70,A5m .u8)::(69,B5e .i64)::(71,B5e .u8)::uB
def C9H:Tab:=A2t uZ A3E
def uC:List (Nat×CtE):=(46,A8o .i64)::(47,A8o .u8)::(48,A5n .i64)::(49,A5n .u8)::uB
def UC:Tab:=A2t uC A3E
def C0u (a k:List Int):AV:=.agg [A10 .i64 a,A10 .u8 k]
def e20:CtE
 |[.agg [.imm (.ints .i64 a) n _,.imm (.ints .u8 k) m _]]=>some ⟨C0u a.reverse (A0j k),[],some (n=a.length/\m=k.length/\a.length<100000000000/\k.length<100000000000)⟩
 |_=>none
def e21:CtE
 |[.agg [.imm (.ints .i64 a) n _,.imm (.ints .u8 k) m _]]=>some ⟨C0u a.reverse (A29 (A0j k)),[],some (n=a.length/\m=k.length/\a.length<100000000000/\k.length<100000000000)⟩
 |_=>none
def C9I:CtE
 |[.agg [.imm (.ints .i64 a) n _,.imm (.ints .u8 k) m _]]=>some ⟨.agg [A10 .i64 a.reverse,.fullc 0 (A0j k).length (A0j k).length],[A2j .u8 (A0j k)],some (n=a.length/\m=k.length/\a.length<100000000000/\0<k.length/\k.length<100000000000)⟩
 |_=>none
def C9J:CtE
 |[.agg [.imm (.ints .i64 a) n _,.imm (.ints .u8 k) m _],.int .i64 i]=>some ⟨.tup [.agg [.fullc 0 (A0r a i.toNat).length (A0r a i.toNat).length,.fullc 1 (A0r k i.toNat).length (A0r k i.toNat).length],.int .i64 0],[A2j .i64 (A0r a i.toNat),A2j .u8 (A0r k i.toNat)],some (n=a.length/\m=k.length/\a.length<100000000000/\chk a k=0/\0<=i/\i<a.length)⟩
 |_=>none
structure L21 where (i:Int)(l:List Int)
def l21 (k:List Int):LpS L21 where
 ov b:=[(11,.int .i64 b.i)]
 bk b:=[(8256,.blk (A2j .u8 b.l))]
 rd S:=match aget S.t 11,aget S.h 8256 with
  |some (.int _ i),some (.blk ⟨.ints _ l,_,_,_,_,_,_⟩)=>some ⟨i,l⟩
  |_,_=>none
 pre b:=∃n:Nat,b.i=n/\n<=k.length/\b.l=(A29 k).take n++k.drop n
 mu b:=k.length-b.i.toNat
def UO:Tab:=A2t ((23,C9I)::uC) A3E
def UOz:Tab:=A2t ((23,e20)::uC) A3E
structure L13 where (i:Int)(k:List Int)
structure L18 where (o a k:List Int)
def l18 (a k:List Int):LpS L18 where
 ov b:=[(2,.full 9001 b.o.length),(6,A10 .i64 (stI b.a b.k))]
 bk b:=[(9001,.blk (B8i b.o)),(66,.blk ⟨.cells [A10 .i64 b.a,A10 .u8 b.k],2,1,none,some false,true,true⟩)]
 rd S:=match aget S.h 9001,aget S.h 66 with
  |some (.blk ⟨.ints _ o,_,_,_,_,_,_⟩),some (.blk ⟨.cells [.imm (.ints _ a) _ _,.imm (.ints _ k) _ _],_,_,_,_,_,_⟩)=>some ⟨o,a,k⟩
  |_,_=>none
 pre b:=okF b.a b.k 8=true/\b.o++rdI b.a b.k=rdI a k/\rdA b.a b.k=rdA a k/\rdK b.a b.k=rdK a k/\b.o.length+b.a.length<=8
 mu b:=b.a.length
def e18:CtE
 |[.agg [.imm (.ints .i64 a) n _,.imm (.ints .u8 k) m _]]=>some ⟨.tup [A10 .i64 (bLs (okD a k) (rdI a k)),.agg [A10 .i64 (bLs (okD a k) (rdA a k)),A10 .u8 (bLs (okD a k) (rdK a k))],.int .i64 (dcd a k)],[],some (n=a.length/\m=k.length/\a.length<1000000000/\k.length<1000000000)⟩
 |_=>none
def e14:CtE
 |[.agg [.imm (.ints .i64 a) n _,.imm (.ints .u8 k) m _]]=>some ⟨.tup [.bool (okD a k&&A2A a k),.int .i64 (dcd a k)],[],some (n=a.length/\m=k.length/\a.length<1000000000/\k.length<1000000000)⟩
 |_=>none
structure L22 where (f kk:Int)(a k:List Int)
structure M22 where (kk:Int)(a k:List Int)
def uR:List (Nat×CtE):=(23,e20)::uC
def UR:Tab:=A2t uR A3E
def uF:List (Nat×CtE):=(43,e18)::(24,e21)::uR
def UF:Tab:=A2t uF A3E
end Go.Proofs.YthiammkiobbclaaGreatDoor.X
