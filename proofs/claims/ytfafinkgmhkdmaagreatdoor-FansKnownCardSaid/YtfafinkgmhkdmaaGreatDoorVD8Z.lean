/-
 What the law on texts computes: texts split and joined; the texts of fans.
-/
import Derived.Test.YtfafinkgmhkdmaaGreatDoorKOZ
set_option maxRecDepth 1000000
set_option linter.unusedVariables false
namespace Go.Proofs.YtfafinkgmhkdmaaGreatDoor.X
open Go Go.Ab
def ixB (s:List UInt8)(b:Int):Int:=A27 s b.toNat.toUInt8 0
def ctB (s:List UInt8)(b:Int):Int:=B6v s b.toNat.toUInt8 0
def B7G:CtE
 |[.str s,.int .u8 b]=>some ⟨.int .i64 (ixB s b),[],none⟩
 |_=>none
def C75:CtE
 |[.str s,.int .u8 b]=>some ⟨.int .i64 (ctB s b),[],none⟩
 |_=>none
def C1L:CtE
 |[.str s,.str [b]]=>some ⟨.int .i64 (ixB s b.toNat),[],some (b=32/\s.length<1000000000)⟩
 |_=>none
def C76:CtE
 |[.str s,.str [b]]=>some ⟨.int .i64 (ctB s b.toNat),[],some (b=32/\s.length<1000000000)⟩
 |_=>none
def B5D (c:UInt8):List (List UInt8)->List (List UInt8)
 |h::t=>(c::h)::t
 |[]=>[[c]]
def A0f:List UInt8->List (List UInt8)
 |[]=>[[]]
 |c::s=>cond (c==32) ([]::A0f s) (B5D c (A0f s))
def B5E:CtE
 |[.str s,.str [b],.int .i64 0,.int .i64 m]=>cond (m== -1) (some ⟨.imm (.strs (A0f s)) (A0f s).length none,[],some (b=32/\s.length<1000000)⟩) none
 |_=>none
def e59:CtE
 |[.str s,.str [b]]=>some ⟨.imm (.strs (A0f s)) (A0f s).length none,[],some (b=32/\s.length<1000000)⟩
 |_=>none
def D3o (l:List (List UInt8))(n:Nat):Blk:=⟨.strs l,1,n,some n,some false,true,false⟩
structure L81 where (i:Int)(s:List UInt8)(l:List (List UInt8))
def l81 (s0:List UInt8)(id:Nat):LpS L81 where
 ov b:=[(0,.str b.s),(10,.int .i64 b.i)]
 bk b:=[(id,.blk (D3o b.l b.l.length))]
 rd S:=match aget S.t 0,aget S.t 10,aget S.h id with
  |some (.str s),some (.int _ i),some (.blk ⟨.strs l,_,_,_,_,_,_⟩)=>some ⟨i,s,l⟩
  |_,_,_=>none
 pre b:=∃n:Nat,b.i=n/\n<(A0f s0).length/\b.l.length=(A0f s0).length/\b.l.take n++A0f b.s=A0f s0/\b.s.length<=s0.length
 mu b:=b.s.length
def C1M (k:Int):UInt8:=if k=1 then 109 else if k=2 then 118 else 97
def pcT (n k:Int):List UInt8:=[C1M k,UInt8.ofNat (48+n.toNat)]
def pcs (a k:List Int):List (List UInt8):=List.zipWith pcT a k
def txF (a k:List Int):List UInt8:=if a=[]then[45]else Lib.join (pcs a k) [32]
def e34:CtE
 |[.int .i64 n]=>some ⟨.str [UInt8.ofNat (48+n.toNat)],[],some (1<=n/\n<=8)⟩
 |_=>none
def e57:CtE
 |[.imm (.strs l) n _,.str sep]=>some ⟨.str (Lib.join l sep),[],some (n=l.length/\l.length<=100000/\(Lib.join l sep).length<=100000)⟩
 |_=>none
structure L33 where (i:Int)(l:List (List UInt8))
def l33 (a k:List Int):LpS L33 where
 ov b:=[(16,.int .i64 b.i),(3,.full 9001 b.l.length)]
 bk b:=[(9001,.blk ⟨.strs b.l,1,b.l.length,none,none,true,false⟩)]
 rd S:=match aget S.t 16,aget S.h 9001 with
  |some (.int _ i),some (.blk ⟨.strs l,_,_,_,_,_,_⟩)=>some ⟨i,l⟩
  |_,_=>none
 pre b:=∃n:Nat,b.i=n/\n<=a.length/\b.l=(pcs a k).take n
 mu b:=a.length-b.i.toNat
def e33:CtE
 |[.agg [.imm (.ints .i64 a) n _,.imm (.ints .u8 k) m _]]=>some ⟨.str (txF a k),[],some (n=a.length/\m=k.length/\chk a k=0)⟩
 |_=>none
def xA:List (Nat×CtE):=(136,B7G)::(147,C75)::[]
def XA:Tab:=A1V xA A2z
def xB:List (Nat×CtE):=(112,B7G)::(73,B7G)::xA
def XB:Tab:=A1V xB A2z
def xC:List (Nat×CtE):=(148,C1L)::(134,C76)::xB
def XC':Tab:=A1V xC A2z
def xD:List (Nat×CtE):=(135,C1L)::xC
def XD:Tab:=A1V xD A2z
def xE:List (Nat×CtE):=(111,B5E)::xD
def XE:Tab:=A1V xE A2z
def xT:List (Nat×CtE):=(47,e34)::(63,e57)::(17,e17)::[]
def XT:Tab:=A1V xT A2z
def A1d:List Int->List Int->Int
 |[],[]=>0
 |[],_::_=> -1
 |_::_,[]=>1
 |x::a,y::b=>if x<y then -1 else if y<x then 1 else A1d a b
theorem A3r:∀a b:List Int,A1d a b= -A1d b a
 |[],[]=>rfl
 |[],_::_=>rfl
 |_::_,[]=>rfl
 |x::a,y::b=>by
  have ih:=A3r a b;simp only[A1d]
  by_cases h1:x<y
  ·rw[if_pos h1,if_neg (show ¬ y<x by omega),if_pos h1]
  ·rw[if_neg h1]
   by_cases h2:y<x
   ·rw[if_pos h2,if_pos h2];rfl
   ·rw[if_neg h2,if_neg h2,if_neg h1];exact ih
theorem B0m:∀{a b:List Int},A1d a b=0->a=b
 |[],[],_=>rfl
 |[],_::_,h=>by cases h
 |_::_,[],h=>by cases h
 |x::a,y::b,h=>by
  simp only[A1d]at h;split at h
  ·cases h
  ·split at h
   ·cases h
   ·have:=B0m h;have e:x=y:=by omega
    rw[this,e]
theorem B5F (a:List Int):A1d a a=0:=by have:=A3r a a;omega
theorem A7H:∀{a b c:List Int},A1d a b<=0->A1d b c<=0->A1d a c<=0
 |[],_,[],_,_=>by simp[A1d]
 |[],_,_::_,_,_=>by simp[A1d]
 |x::a,[],c,h,_=>by simp[A1d]at h
 |x::a,y::b,[],_,h=>by simp[A1d]at h
 |x::a,y::b,z::c,h1,h2=>by
  simp only[A1d]at h1 h2 ⊢;split
  ·decide
  ·split
   ·split at h1
    ·split at h2
     ·omega
     ·split at h2<;>omega
    ·split at h1
     ·omega
     ·split at h2
      ·omega
      ·split at h2<;>omega
   ·split at h1
    ·split at h2
     ·omega
     ·split at h2<;>omega
    ·split at h1
     ·omega
     ·split at h2
      ·omega
      ·split at h2
       ·omega
       ·exact A7H h1 h2
theorem B2N:∀{a b k j:List Int},a.length=b.length->A1d (a++k) (b++j)=if A1d a b=0 then A1d k j else A1d a b
 |[],[],k,j,_=>by simp[A1d]
 |x::a,y::b,k,j,h=>by
  simp only[List.cons_append,A1d];have ih:=B2N (k:=k) (j:=j) (show a.length=b.length by simpa using h);split
  ·rfl
  ·split
   ·rfl
   ·exact ih
 |[],_::_,k,j,h=>by simp at h
 |_::_,[],k,j,h=>by simp at h
def A1e (f:Nat->List Int):Nat->Nat
 |0=>0
 |m+1=>if A1d (f m) (f (A1e f m))<0 then m else A1e f m
theorem A8T (f:Nat->List Int):∀n,A1e f n<=n-1
 |0=>Nat.le_refl _
 |m+1=>by
  have:=A8T f m;unfold A1e;split<;>omega
theorem A8U (f:Nat->List Int):∀n i,i<n->A1d (f (A1e f n)) (f i)<=0
 |0,i,h=>by omega
 |m+1,i,h=>by
  have hb:=A8U f m;unfold A1e;split
  ·rename_i hc
   by_cases e:i=m
   ·rw[e,B5F];omega
   ·exact A7H (by omega) (hb i (by omega))
  ·rename_i hc
   by_cases e:i=m
   ·have:=A3r (f (A1e f m)) (f m);rw[e];omega
   ·exact hb i (by omega)
theorem B5G {f g:Nat->List Int}{n:Nat}(hn:0<n)(h1:∀i,i<n->∃j,j<n/\f i=g j)(h2:∀i,i<n->∃j,j<n/\g i=f j):f (A1e f n)=g (A1e g n):=by
 have l1:=A8T f n;have l2:=A8T g n;obtain⟨j,hj,e1⟩:=h1 (A1e f n) (by omega);obtain⟨i,hi,e2⟩:=h2 (A1e g n) (by omega);apply B0m;have q1:=A8U g n j hj;have q2:=A8U f n i hi;rw[<- e1]at q1;rw[<- e2]at q2;have:=A3r (f (A1e f n)) (g (A1e g n));omega
theorem A1i (l:List Int)(i:Nat):(rotL' l i).length=l.length:=by simp[rotL'];omega
theorem A6z {l:List Int}{i m:Nat}(hi:i<=l.length)(hm:m<l.length):(rotL' l i)[m]?.getD 0=l[(m+i)%l.length]?.getD 0:=by
 unfold rotL'
 by_cases h:m<l.length-i
 ·rw[List.getElem?_append_left (by simp;omega),List.getElem?_drop,Nat.mod_eq_of_lt (by omega),Nat.add_comm]
 ·rw[List.getElem?_append_right (by simp;omega),List.getElem?_take,List.length_drop];have e:(m+i)%l.length=m-(l.length-i):=by
   rw[show m+i=(m-(l.length-i))+l.length by omega,Nat.add_mod_right,Nat.mod_eq_of_lt (by omega)]
  rw[if_pos (by omega),e]
theorem C77 {a b:List Int}(hl:a.length=b.length)(h:∀m,m<a.length->a[m]?.getD 0=b[m]?.getD 0):a=b:=by
 refine List.ext_getElem hl fun m h1 h2=>?_;have:=h m h1
 rwa [List.getElem?_eq_getElem h1,List.getElem?_eq_getElem h2]at this
theorem B5H {l:List Int}{i j:Nat}(hi:i<l.length)(hj:j<l.length):rotL' (rotL' l i) j=rotL' l ((i+j)%l.length):=by
 have hm:(i+j)%l.length<l.length:=Nat.mod_lt _ (by omega);refine C77 (by rw[A1i,A1i,A1i]) fun m h=>?_;rw[A1i,A1i]at h;have hm2:(m+j)%l.length<l.length:=Nat.mod_lt _ (by omega);rw[A6z (by rw[A1i];omega) (by rw[A1i];omega),A1i,A6z (by omega) hm2,A6z (by omega) h]
 congr 2
 rw[Nat.mod_add_mod,Nat.add_mod_mod]
 congr 1;omega
def trn (a k:List Int)(i:Nat):List Int:=rotL' a i++rotL' k i
def lsI (a k:List Int):Nat:=A1e (trn a k) a.length
def lsA (a k:List Int):List Int:=rotL' a (lsI a k)
def lsK (a k:List Int):List Int:=rotL' k (lsI a k)
theorem C3v {a k:List Int}{i:Nat}(hk:k.length=a.length)(hi:i<a.length):lsA (rotL' a i) (rotL' k i)=lsA a k/\lsK (rotL' a i) (rotL' k i)=lsK a k:=by
 have hf:∀j,j<a.length->trn (rotL' a i) (rotL' k i) j=trn a k ((i+j)%a.length):=fun j hj=>by
  unfold trn;rw[B5H hi hj,B5H (by omega) (by omega),hk]
 have key:=B5G (f:=trn (rotL' a i) (rotL' k i)) (g:=trn a k) (n:=a.length) (by omega) (fun j hj=>⟨(i+j)%a.length,Nat.mod_lt _ (by omega),hf j hj⟩) (fun j hj=>by
  refine⟨(j+(a.length-i))%a.length,Nat.mod_lt _ (by omega),?_⟩;rw[hf _ (Nat.mod_lt _ (by omega)),Nat.add_mod_mod]
  congr 1
  rw[show i+(j+(a.length-i))=j+a.length by omega,Nat.add_mod_right,Nat.mod_eq_of_lt hj])
 have e:lsI (rotL' a i) (rotL' k i)=A1e (trn (rotL' a i) (rotL' k i)) a.length:=by unfold lsI;rw[A1i]
 have key2:rotL' (rotL' a i) (lsI (rotL' a i) (rotL' k i))++rotL' (rotL' k i) (lsI (rotL' a i) (rotL' k i))=rotL' a (lsI a k)++rotL' k (lsI a k):=by
  rw[e];exact key
 exact List.append_inj key2 (by unfold lsA;rw[A1i,A1i,A1i])
theorem C78 {a k:List Int}{i:Nat}(hi:i<a.length):A1d (lsA a k++lsK a k) (rotL' a i++rotL' k i)<=0:=A8U (trn a k) a.length i hi
theorem C79 (a k:List Int):lsI a k<=a.length-1:=A8T _ _
def A28 (x y:Int):Int:=if x<y then -1 else if y<x then 1 else 0
def orI (x y:Int):Int:=if x=0 then y else x
def A46 (k:IntKind):CtE
 |[.int k1 x,.int k2 y]=>cond (A2R k1 k&&A2R k2 k) (some ⟨.int .i64 (A28 x y),[],none⟩) none
 |_=>none
def B2O (k:IntKind):CtE
 |[.int k1 x]=>cond (A2R k1 k) (some ⟨.bool false,[],none⟩) none
 |_=>none
def e47:CtE
 |[.imm (.ints .i64 [x,y]) 2 _]=>some ⟨.int .i64 (orI x y),[],none⟩
 |_=>none
def C1N (k:IntKind):CtE
 |[.imm (.ints k1 a) n _,.imm (.ints k2 b) m _]=>cond (A2R k1 k&&A2R k2 k) (some ⟨.int .i64 (A1d a b),[],some (n=a.length/\m=b.length/\a.length<1000000000000/\b.length<1000000000000)⟩) none
 |_=>none
structure L48 where (i:Int)
def l48 (a b:List Int):LpS L48 where
 ov c:=[(11,.int .i64 c.i)]
 bk c:=[]
 rd S:=match aget S.t 11 with
  |some (.int _ i)=>some ⟨i⟩
  |_=>none
 pre c:=∃n:Nat,c.i=n/\n<=a.length/\n<=b.length/\A1d (a.drop n) (b.drop n)=A1d a b
 mu c:=a.length-c.i.toNat
def B0n (k:IntKind):CtE
 |[.imm (.ints k1 a) n _,.int .i64 i]=>cond (A2R k1 k) (some ⟨A7F k (rotL' a i.toNat),[],some (n=a.length/\a.length<100000000000/\0<=i/\i<=a.length)⟩) none
 |_=>none
def wA:List (Nat×CtE):=(22,A46 .i64)::(109,A46 .u8)::(51,B2O .i64)::(128,B2O .u8)::(21,e47)::uC
def WA:Tab:=A1V wA A2z
def wN:List (Nat×CtE):=[(51,B2O .i64),(128,B2O .u8)]
def WN:Tab:=A1V wN A2z
def wB:List (Nat×CtE):=(42,B0n .i64)::(43,B0n .u8)::(69,C1N .i64)::(70,C1N .u8)::wA
def WB:Tab:=A1V wB A2z
def tOk (a:List Int)(i:Int):Bool:=decide (0<=i/\(i<a.length\/i=0))
def bLt (b:Bool)(l:List Int):List Int:=cond b l []
def C3w:CtE
 |[.agg [.imm (.ints .i64 a) n _,.imm (.ints .u8 k) m _],.int .i64 i]=>some ⟨.tup [.agg [A7F .i64 (bLt (tOk a i) (rotL' a i.toNat)),A7F .u8 (bLt (tOk a i) (rotL' k i.toNat))],.int .i64 (bI (tOk a i) 0 1)],[],some (n=a.length/\m=k.length/\a.length<100000000000/\chk a k=0)⟩
 |_=>none
abbrev B1w (a k:List Int):Cont:=.vals [.imm (.ints .i64 a) a.length none,.imm (.ints .u8 k) k.length none]
def e46:CtE
 |[.agg [.imm (.ints .i64 a) n _,.imm (.ints .u8 k) m _]]=>some ⟨.fn 108 [] [.iptr (B1w a k)],[],some (n=a.length/\m=k.length)⟩
 |_=>none
def ltF (b j oa ok:List Int):Bool:=ltb (orI (A1d b oa) (A1d j ok)) 0
def B0o (a k:List Int):HO:=.blk ⟨.cells [A7F .i64 a,A7F .u8 k],2,1,none,some false,true,true⟩
def B3Q (a k b j:List Int):Bool:=ltb (A1d (a++k) (b++j)) 0
def e29:CtE
 |[.agg [.imm (.ints .i64 a) n _,.imm (.ints .u8 k) m _],.agg [.imm (.ints .i64 b) n' _,.imm (.ints .u8 j) m' _]]=>some ⟨.bool (B3Q a k b j),[],some (n=a.length/\m=k.length/\n'=b.length/\m'=j.length/\a.length=b.length/\k.length=j.length/\a.length<1000000000000/\k.length<1000000000000)⟩
 |_=>none
def m29 (a b k j:List Int):LpS L26 where
 ov c:=[(5,.int .i64 c.i)]
 bk c:=[]
 rd S:=match aget S.t 5 with
  |some (.int _ i)=>some ⟨i⟩
  |_=>none
 pre c:=∃n:Nat,c.i=n/\n<=a.length/\A1d (a.drop n++k) (b.drop n++j)=A1d (a++k) (b++j)
 mu c:=a.length-c.i.toNat
def n29 (a b k j:List Int):LpS L26 where
 ov c:=[(6,.int .i64 c.i)]
 bk c:=[]
 rd S:=match aget S.t 6 with
  |some (.int _ i)=>some ⟨i⟩
  |_=>none
 pre c:=∃n:Nat,c.i=n/\n<=k.length/\A1d (k.drop n) (j.drop n)=A1d (a++k) (b++j)
 mu c:=k.length-c.i.toNat
def D3p (a k:List Int):List (Nat×AV):=[(2,.ptr 65 0),(4,.ptr 133 0),(17,.fn 108 [] [.iptr (B1w a k)])]
noncomputable def H28 (a k oa ok:List Int):List (Nat×HO):=[(133,B0o oa ok),(65,.blk ⟨.cells [.nils,.nils],2,1,none,some false,true,true⟩),(9002,.loop (B2F C2f (D3p a k)))]
def A4G (c:Bool)(x y:List Int):List Int:=cond c x y
structure L71 where (i:Int)(a k:List Int)
def l71 (a k:List Int):LpS L71 where
 ov b:=[(7,.int .i64 b.i)]
 bk b:=[(133,B0o b.a b.k)]
 rd S:=match aget S.t 7,aget S.h 133 with
  |some (.int _ i),some (.blk ⟨.cells [.imm (.ints _ x) _ _,.imm (.ints _ y) _ _],_,_,_,_,_,_⟩)=>some ⟨i,x,y⟩
  |_,_=>none
 pre b:=∃n:Nat,b.i=n/\n<=a.length/\b.a=rotL' a (A1e (trn a k) n)/\b.k=rotL' k (A1e (trn a k) n)
 mu b:=a.length-b.i.toNat
noncomputable def C8a (a k:List Int)(h:List (Nat×HO))(cv:AV)(args:List AV):Option Cx:=
 match cv,args,aget h 133 with
 |.yld id,[.agg [.imm (.ints .i64 x) n (some c),.imm (.ints .u8 y) m (some d)]],some (.blk ⟨.cells [.imm (.ints .i64 oa) _ _,.imm (.ints .u8 ok) _ _],_,_,_,_,_,_⟩)=>cond (Nat.beq id 9002) (some ⟨.bool true,[(133,B0o (A4G (ltF x y oa ok) x oa) (A4G (ltF x y oa ok) y ok))],some (h=H28 a k oa ok/\n=x.length/\m=y.length/\c=n/\d=m/\x.length<1000000000/\y.length<1000000000/\oa.length<1000000000/\ok.length<1000000000)⟩) none
 |_,_,_=>none
noncomputable def D2o (a k:List Int):Tab:=A1V [(42,B0n .i64),(43,B0n .u8)] (C8a a k)
noncomputable def C8b (a k:List Int)(h:List (Nat×HO))(cv:AV)(args:List AV):Option Cx:=
 match cv,args with
 |.fn f [] [],[.yld id,.iptr _]=>cond (Nat.beq id 9002&&Nat.beq f 108) (some ⟨.tup [],[(133,B0o (lsA a k) (lsK a k))],some (h=H28 a k (rotL' a 0) (rotL' k 0)/\args=[.yld 9002,.iptr (B1w a k)]/\k.length=a.length/\a.length<1000000000)⟩) none
 |_,_=>none
noncomputable def T28 (a k:List Int):Tab:=A1V ((12,C3w)::(68,e46)::wB) (C8b a k)
def e28:CtE
 |[.agg [.imm (.ints .i64 a) n _,.imm (.ints .u8 k) m _]]=>some ⟨.tup [A89 (lsA a k) (lsK a k),.int .i64 0],[],some (n=a.length/\m=k.length/\a.length<1000000000/\chk a k=0)⟩
 |_=>none
def wL:List (Nat×CtE):=(11,e12)::(44,e28)::(45,e29)::(10,e26)::(16,e25)::(12,C3w)::wB
def WL:Tab:=A1V wL A2z
structure L9 where (k:Int)(f:Bool)
def B33 (a k:List Int)(n:Nat):Bool:=(a.length==0)||(List.range n).any fun i=>eqB (rotL' a i) (lsA a k)&&eqB (rotL' k i) (lsK a k)
def l9 (a k:List Int):LpS L9 where
 ov b:=[(9,.bool b.f),(10,.int .i64 b.k)]
 bk b:=[]
 rd S:=match aget S.t 10,aget S.t 9 with
  |some (.int _ i),some (.bool f)=>some ⟨i,f⟩
  |_,_=>none
 pre b:=∃n:Nat,b.k=n/\n<=a.length/\b.f=B33 a k n
 mu b:=a.length-b.k.toNat
def m9 (a:List Int):LpS L26 where
 ov c:=[(15,.int .i64 c.i)]
 bk c:=[]
 rd S:=match aget S.t 15 with
  |some (.int _ i)=>some ⟨i⟩
  |_=>none
 pre c:=∃n:Nat,c.i=n/\n<=a.length
 mu c:=a.length-c.i.toNat
end Go.Proofs.YtfafinkgmhkdmaaGreatDoor.X
