/-
 Cones: the law of counting.
-/
import Derived.Test.YthiammkiobbclaaGreatDoorP12Z
import Derived.Test.YthiammkiobbclaaGreatDoorC12Z
set_option maxRecDepth 1000000
set_option linter.unusedVariables false
set_option linter.unusedSimpArgs false
namespace Go.Proofs.YthiammkiobbclaaGreatDoor.X
open Go Go.Ab
theorem C64 {a k:List Int}{m:Nat}(hm:m<(A0V a.length).length):A8A a k (m+1)=A8A a k m++(if B9X a k (oA a m)=true then[oA a m]else[]):=by
 unfold A8A oA;rw[Int.toNat_natCast,List.take_add_one,List.getElem?_eq_getElem hm,List.filter_append];refine congrArg _ ?_;show List.filter _ [_]=if B9X a k (A0V a.length)[m]=true then[(A0V a.length)[m]]else[]
 rw[List.filter_cons,List.filter_nil]
theorem C3Q {L M:List (List Int)}(h:L≠[]):hdL (L++M)=hdL L:=by
 cases L with
 |nil=>exact absurd rfl h
 |cons x r=>rfl
theorem C65 {a k:List Int}{m:Nat}(hm:m=(A0V a.length).length)(h:A0l a k=true):A7R a k=A8A a k m:=by
 unfold A7R A8A;rw[h,cond_true,List.take_of_length_le (by omega)]
theorem C0W {a k:List Int}(h:A0l a k=false):A7R a k=[]:=by
 unfold A7R;rw[h];rfl
theorem D11:A1j Tryz.prog G 12 D1T:=by
 intro args r h hp;unfold D1T at h;split at h<;>cases h;rename_i n;obtain⟨q,rfl⟩:∃q:Nat,n=q:=⟨n.toNat,by have:0<=n/\n<=6:=hp;omega⟩;have hp:0<=(q:Int)/\(q:Int)<=6:=hp;rw[Int.toNat_natCast];exact C60 q (by omega)
theorem D7J:TabOk Tryz.prog G T3:=A0q A0C ⟨C2l,D11,C2J,C25,D1Y,B7B,C6e,C8y,B2M,trivial⟩
theorem sp3 (c l:Int)(ks:List Int)(hk:okK ks):SpecP Tryz.prog G 3 [fV c l ks] (.bool true) []:=by
 refine A0e hcm hmx D7J ok3 rfl (D1U c l ks) ?_;dsimp -failIfUnchanged -proj -eta -iota -zeta only[rd,rdw,qs,ql,qx];obtain⟨h1,h2,h3,h4⟩:=B2v (c:=c) (l:=l) hk;have hc:=A8s (c:=c) (l:=l) hk;generalize ofA c l ks=a at*;generalize ofK c ks=k at*;have hR:List.range.loop a.length []=List.range a.length:=rfl;simp only[hR,Int.toNat_natCast,iI,A0p,and_true,true_and,A0k,A0M,A0h,A0x,A0u,A0y,C0T,beq_iff_eq,beq_eq_false_iff_ne,ne_eq,bne,Bool.not_not,Bool.not_eq_false',Bool.not_eq_true',imp_self,implies_true,forall_const,true_imp_iff,decide_eq_true_eq];refine⟨hk,fun h6=>⟨⟨by omega,by omega⟩,⟨⟨0,rfl,by omega,rfl,rfl,fun _=>rfl⟩,?_⟩,?_⟩⟩
 ·have h7:=B71 a.length (by omega);rintro⟨i,n,w⟩ ⟨m,hi,hm,hn,hw,hz⟩;simp only at hi hn hw ⊢;subst hi hn hw;simp only[Int.toNat_natCast];have hwl:(A8A a k m).length<=m:=by
   have:=List.length_filter_le (fun o=>B9X a k o) ((A0V a.length).take m);rw[List.length_take]at this;unfold A8A;omega
  refine⟨fun hlt=>⟨by omega,fun hs=>?_,fun hs=>?_⟩,fun hge=>?_⟩
  ·have hml:m<(A0V a.length).length:=by omega
   have hoA:oA a (m:Int)=(A0V a.length)[m]:=by
    unfold oA;rw[Int.toNat_natCast,List.getElem?_eq_getElem hml];rfl
   have hget:(List.drop m (oV (A0V a.length)))[0]? =some (AV.imm (Cont.ints .i64 (oA a m)) (oA a m).length none):=by
    rw[List.getElem?_drop,Nat.add_zero];unfold oV;rw[List.getElem?_map,List.getElem?_eq_getElem hml,hoA];rfl
   have hp:(oA a (m:Int)).Perm (idO a.length):=(A6g _ _).1 (hoA▸List.getElem_mem hml);have hA:okA a:=(A1C hs).2.1|>fun h=>h3;have hst:=C64 (k:=k) hml;have hwb:B9X a k (oA a m)=(bif A3d a k (oA a m)==0 then B5m (A0b a) (oA a m)else false):=by
    unfold B9X;cases A3d a k (oA a m)==0<;>rfl
   rw[<- hwb];refine⟨by omega,by omega,by omega,hget,⟨h3,h1,hp⟩,fun _=>by omega,fun _=>by omega,fun _=>by omega,fun _=>hget,fun _=>⟨h3,hp⟩,by cases A3d a k (oA a m)==0<;>rfl,fun hw=>?_,fun hw=>?_⟩
   ·rw[if_pos hw]at hst;refine⟨fun h0=>⟨by omega,by omega,by omega,hget,by omega,by omega,⟨m+1,by omega,by omega,?_,?_,fun h=>?_⟩,by omega⟩,fun h0=>⟨by omega,by omega,⟨m+1,by omega,by omega,?_,?_,fun h=>?_⟩,by omega⟩⟩
    ·rw[hst,List.length_append];rfl
    ·rw[hst,List.length_eq_zero_iff.1 (by omega:(A8A a k m).length=0)];rfl
    ·rw[hs]at h;cases h
    ·rw[hst,List.length_append];rfl
    ·rw[hst,C3Q];intro h;rw[h]at h0;exact h0 rfl
    ·rw[hs]at h;cases h
   ·rw[if_neg (by rw[hw];decide),List.append_nil]at hst;exact⟨by omega,⟨m+1,by omega,by omega,by rw[hst],by rw[hst],fun h=>by rw[hs]at h;cases h⟩,by omega⟩
  ·have:=hz hs;subst this;rw[C0W hs];exact⟨rfl,rfl⟩
  ·cases hs:A0l a k with
   |false=>
    have:=hz hs;subst this;rw[C0W hs];exact⟨rfl,rfl⟩
   |true=>
    rw[C65 (m:=m) (by omega) hs];exact⟨rfl,rfl⟩
 ·rintro⟨n,w⟩ ⟨hn,hw⟩;simp only at hn hw ⊢;subst hn hw;have hcE:A39 a k=0:=by
   unfold A39 ofE;rw[if_pos hc];split<;>simp
  have hcw:=C63 a k;have hof:ofE a k=0\/ofE a k=14:=by
   unfold ofE;rw[if_pos hc];split<;>simp
  have hfE:B3V a k=if A7R a k=[]then 7 else 0:=by
   unfold B3V;rw[if_pos hof,hcw]
  have hfL:A4e a k=hdL (A7R a k):=by
   unfold A4e;rw[hcw];rfl
  rw[hcE,hcw,hfE,hfL];refine⟨by omega,by omega,rfl,rfl,fun h0=>?_,fun h0=>?_⟩
  ·rw[List.length_eq_zero_iff.1 (by omega:(A7R a k).length=0)];exact⟨rfl,rfl⟩
  ·have hne:A7R a k≠[]:=fun h=>h0 (by rw[h];rfl);refine⟨if_neg hne,?_,rfl⟩;cases hL:A7R a k with
   |nil=>exact absurd hL hne
   |cons x r=>
    have hx:x∈A7R a k:=by rw[hL];exact List.mem_cons_self ..
    unfold A7R at hx;cases hs:A0l a k with
    |false=>rw[hs]at hx;cases hx
    |true=>
     rw[hs,cond_true]at hx;have:=B2P (List.mem_filter.1 hx).1;show x.length<_;omega
def t4:List (Nat×CtE):=[(10,e25),(19,C8B),(16,C1X),(20,e14),(21,e32),(11,e11)]
def T4k:Tab:=A2t t4 A3E
def A7A:Nat->List (List Int)
 |0=>[[]]
 |n+1=>(A7A n).map (fun h=>1::h)++(A7A n).map (fun h=>2::h)
def hM (n:Nat)(m:Int):List Int:=(A7A n)[m.toNat]?.getD []
def B5w (k h:List Int)(i:Nat):Bool:=(List.range i).all fun(j:Nat)=>gR k j==3||gR k j==gR h j
def isK (a k h:List Int):Bool:=B5w k h k.length&&A2A a h
def kN (a k:List Int)(m:Nat):List (List Int):=((A7A k.length).take m).filter fun h=>isK a k h
def B1L (a:List Int)(L:List (List Int)):Int:=(L.map fun h=>((cwL a h).length:Int)).sum
structure L4 where (m t s:Int)
def l4 (a k:List Int):LpS L4 where
 ov b:=[(11,.int .i64 b.m),(9,.int .i64 b.t),(10,.int .i64 b.s)]
 bk b:=[]
 rd S:=match aget S.t 11,aget S.t 9,aget S.t 10 with
  |some (.int _ m),some (.int _ t),some (.int _ s)=>some ⟨m,t,s⟩
  |_,_,_=>none
 pre b:=∃m:Nat,b.m=m/\m<=2 ^ k.length/\b.t=((kN a k m).length:Nat)/\b.s=B1L a (kN a k m)
 mu b:=2 ^ k.length-b.m.toNat
structure I4 where (i:Int)(f:Bool)(h:List Int)
def i4 (a k:List Int)(m:Int):LpS I4 where
 ov b:=[(14,.int .i64 b.i),(13,.bool b.f)]
 bk b:=[(899,.blk ⟨.cells [.imm (.ints .i64 a) a.length none,.full 9001 b.h.length],2,1,none,some false,true,true⟩),(9001,.blk (B84 .u8 b.h))]
 rd S:=match aget S.t 14,aget S.t 13,aget S.h 9001 with
  |some (.int _ i),some (.bool f),some (.blk ⟨.ints _ h,_,_,_,_,_,_⟩)=>some ⟨i,f,h⟩
  |_,_,_=>none
 pre b:=∃i:Nat,b.i=i/\i<=k.length/\b.f=B5w k (hM k.length m) i/\b.h=(hM k.length m).take i
 mu b:=k.length-b.i.toNat
def kA (a k:List Int)(i:Int):List Int:=(A1a a k)[i.toNat]?.getD []
open List IntKind
theorem D12 (c l:Int)(ks:List Int):fnP (T4k) G 10000 fe4 (.r [] 0 (.r [] 5 (.r [] 1 (.r [] 0 (.cnd (.r [] 1 .nil) (.r [] 49 (.r [] 49 (.frz 3 0 (.r [yL 515,yL 516,yL 519,yL 520,yL 521,yL 522,yL 523] 2030 (.cnd (.r [] 0 .nil) (.r [] 0 (.r [] 0 (.lp (l4 (ofA c l ks) (ofK c ks)) [] [] (fun b=>(.r [] 2 (.cnd (.r [] 3 (.ghc 899 1 9001 1 (Cont.ints u8 []) (.r [] 0 (.r [] 0 (.lp (i4 (ofA c l ks) (ofK c ks) b.m) [] [] (fun b_1=>(.r [] 0 (.cnd (.r [] 8 (.rs 2 [] 0 75 (.rs 7 [] 1 82 (.r [] 15 (.r [] 25 (.r [] 0 .nil))) (.r [] 481 (.r [] 25 (.r [] 0 .nil)))) (.r [] 3 (.r [] 25 (.r [] 0 .nil))))) (.frz 12 0 (.r [] 13 (.r [] 0 (.cnd (.r [] 0 .nil) (.rs 3 [] 0 107 (.r [] 3 (.lit (.r [] 0 .nil))) (.r [] 3 (.cnd (.r [] 0 .nil) (.r [yM 1669,yM 1670,yM 1671,(1672,.may,Dr.val [A10 i64 (ofA c l ks),A10 u8 (kA (ofA c l ks) (ofK c ks) b.t)]),yM 1673,yM 1674,yM 1675,yM 1678,yM 1679,yM 1680,yM 1681,(1682,.may,Dr.val [A10 i64 (ofA c l ks)]),yM 1683,yM 1684,yM 1685,yM 1688,yM 1689,yM 1690,yM 1691,(1692,.may,Dr.val [A10 u8 (kA (ofA c l ks) (ofK c ks) b.t)]),yM 1693,yM 1694,yM 1695] 549822931200 (.cnd (.r [] 0 .nil) (.r [] 13 (.rs 3 [] 0 151 (.r [] 3 (.lit (.r [] 0 .nil))) (.r [] 3 (.cnd (.r [] 0 .nil) (.r [] 0 (.r [] 0 (.r [] 0 .nil)))))))))))))))))))))))) (.rs 5 [] 0 164 (.rs 5 [] 3 169 (.r [] 7 .nil) (.r [] 3 .nil)) (.r [] 15 .nil)))))))))))))))))) ([fV c l ks]) ([.bool true]) ([])=(
 (fun(A K:List Int)=>(fun(zz12:Nat)=>(fun(zz7:Nat)=>(fun(zz2:Nat)=>(qx (length ks) (okK ks))/\length K=length K/\(ltb 6 (↑(length K):Int)=true->true=true/\
 True)/\(ltb 6 (↑(length K):Int)=false->length A=length A/\length K=length K/\(length A=length A/\length K=length K/\length A<1000000/\length K<1000000)/\length A=
 length A/\length K=length K/\(length A=length A/\length K=length K/\length A<1000000)/\length A=length A/\length K=length K/\(!chk A K !=0)=true/\(!A39 A K !=0)=
 true/\(((↑zz2:Int) !=(↑zz2:Int))=true->false=true/\True)/\(((↑zz2:Int) !=(↑zz2:Int))=false->1=1/\c=c/\l=l/\qs u8 ks (length A=length A/\qx (ofA c l ks)
 (length K=length K/\ofK c ks=ofK c ks/\1=1/\length A=length A/\length K=length K/\Cont.vals [AV.imm (Cont.ints i64 A) (length A) none,AV.imm (Cont.ints u8 K) (length K) none]
 =Cont.vals [AV.imm (Cont.ints i64 A) (length A) none,AV.imm (Cont.ints u8 K) (length K) none]/\ql K (qx (Cont.vals (A1l A (A1a A K))) (qx zz2 (qx zz2 (qx (↑zz7:Int) (iI 0=0/\iI 0
 =0/\iI 0=0/\(∃(m:Nat),0=(↑m:Int)/\m<=2 ^ length K/\0=(↑(length (kN A K m)):Int)/\0=B1L A (kN A K m))/\∀(b:L4),(fun(zz10:Nat)=>(fun(zz9:Prop)=>(fun(zz4
 :Bool)=>(∃(m:Nat),b.m=(↑m:Int)/\m<=2 ^ length K/\b.t=(↑(length (kN A K m)):Int)/\b.s=B1L A (kN A K m))->inR i64 (1*2 ^ min zz12 64)=true/\(ltb b.m (1*2 ^ min
 zz12 64)=true->1=1/\c=c/\l=l/\qs u8 ks (length A=length A/\qx (ofA c l ks) (length K=length K/\ofK c ks=ofK c ks/\1=1/\length A=length A/\length K=length K/\1=
 1/\qs i64 A (0=0/\0=0/\iL []=[]/\Cont.vals [AV.imm (Cont.ints i64 A) (length A) none,AV.imm (Cont.ints u8 K) (length K) none]=Cont.vals [AV.imm (Cont.ints i64 A) (length A)
 none,AV.imm (Cont.ints u8 K) (length K) none]/\ql K (qx (Cont.vals (A1l A (A1a A K))) (qx zz2 (qx zz2 (qx (↑zz7:Int) (b.t=b.t/\b.s=b.s/\b.m=b.m/\0=0/\true=true/\iI 0=
 0/\(∃(i:Nat),0=(↑i:Int)/\i<=length K/\true=B5w K (hM (length K) b.m) i/\[]=take i (hM (length K) b.m))/\∀(b_1:I4),(fun(zz11:Nat)=>(fun(zz8:Bool)=>(fun(zz5:
 Bool)=>(fun(zz3:Nat)=>(fun(zz6:Bool)=>(fun(zz1:Bool)=>(fun(zz0:Bool)=>(∃(i:Nat),b_1.i=(↑i:Int)/\i<=length K/\b_1.f=B5w K (hM (length K) b.m) i/\b_1.h=
 take i (hM (length K) b.m))->(ltb b_1.i (↑(length K):Int)=true->inR i64 ((↑(length K):Int)-1)=true/\inR i64 ((↑(length K):Int)-1-b_1.i)=true/\leb 0 ((↑(length K):Int)
 -1-b_1.i)=true/\inR i64 (1+Int.tmod (Int.fdiv b.m (2 ^ min zz3 64)) 2)=true/\inR u8 (1+Int.tmod (Int.fdiv b.m (2 ^ min zz3 64)) 2)=true/\(b_1.f=true->rd u8 K b_1.i (((getD
 (drop (Int.toNat b_1.i) K) 0 0==3)=true->qx (length b_1.h) (A0R ((length b_1.h+1)*1) 140737488355328=true/\inR i64 (b_1.i+1)=true/\1=1/\c=c/\l=l/\qs u8 ks (length
 A=length A/\qx (ofA c l ks) (length K=length K/\ofK c ks=ofK c ks/\1=1/\length A=length A/\length K=length K/\1=1/\qs i64 A (length b_1.h+1=length (b_1.h++[1+
 Int.tmod (Int.fdiv b.m (2 ^ min zz3 64)) 2])/\length b_1.h+1=length (b_1.h++[1+Int.tmod (Int.fdiv b.m (2 ^ min zz3 64)) 2])/\b_1.h++[1+Int.tmod (Int.fdiv b.m (2 ^ min zz3 64))
 2]=b_1.h++[1+Int.tmod (Int.fdiv b.m (2 ^ min zz3 64)) 2]/\Cont.vals [AV.imm (Cont.ints i64 A) (length A) none,AV.imm (Cont.ints u8 K) (length K) none]=Cont.vals [AV.imm (Cont.ints
 i64 A) (length A) none,AV.imm (Cont.ints u8 K) (length K) none]/\ql K (qx (Cont.vals (A1l A (A1a A K))) (qx zz2 (qx zz2 (qx (↑zz7:Int) (b.t=b.t/\b.s=b.s/\b.m=b.m/\0=0/\
 true=true/\qx (b_1.i+1) ((∃(i:Nat),b_1.i+1=(↑i:Int)/\i<=length K/\true=B5w K (hM (length K) b.m) i/\b_1.h++[1+Int.tmod (Int.fdiv b.m (2 ^ min zz3 64)) 2]=take i
 (hM (length K) b.m))/\length K-Int.toNat (b_1.i+1)<length K-Int.toNat b_1.i/\True)))))))))))/\((getD (drop (Int.toNat b_1.i) K) 0 0==3)=false->rd u8 K b_1.i (qx (length
 b_1.h) (A0R ((length b_1.h+1)*1) 140737488355328=true/\inR i64 (b_1.i+1)=true/\1=1/\c=c/\l=l/\qs u8 ks (length A=length A/\qx (ofA c l ks) (length K=length K/\ofK
 c ks=ofK c ks/\1=1/\length A=length A/\length K=length K/\1=1/\qs i64 A (length b_1.h+1=length (b_1.h++[1+Int.tmod (Int.fdiv b.m (2 ^ min zz3 64)) 2])/\length b_1.h+
 1=length (b_1.h++[1+Int.tmod (Int.fdiv b.m (2 ^ min zz3 64)) 2])/\b_1.h++[1+Int.tmod (Int.fdiv b.m (2 ^ min zz3 64)) 2]=b_1.h++[1+Int.tmod (Int.fdiv b.m (2 ^ min zz3 64)) 2]
 /\Cont.vals [AV.imm (Cont.ints i64 A) (length A) none,AV.imm (Cont.ints u8 K) (length K) none]=Cont.vals [AV.imm (Cont.ints i64 A) (length A) none,AV.imm (Cont.ints u8 K) (length K)
 none]/\ql K (qx (Cont.vals (A1l A (A1a A K))) (qx zz2 (qx zz2 (qx (↑zz7:Int) (b.t=b.t/\b.s=b.s/\b.m=b.m/\0=0/\zz6=zz6/\qx (b_1.i+1) ((∃(i:Nat),b_1.i+1=(↑i:
 Int)/\i<=length K/\zz6=B5w K (hM (length K) b.m) i/\b_1.h++[1+Int.tmod (Int.fdiv b.m (2 ^ min zz3 64)) 2]=take i (hM (length K) b.m))/\length K-Int.toNat (b_1.i+1)<length
 K-Int.toNat b_1.i/\True))))))))))))))/\(b_1.f=false->qx (length b_1.h) (A0R ((length b_1.h+1)*1) 140737488355328=true/\inR i64 (b_1.i+1)=true/\1=1/\c=c/\l=l/\qs
 u8 ks (length A=length A/\qx (ofA c l ks) (length K=length K/\ofK c ks=ofK c ks/\1=1/\length A=length A/\length K=length K/\1=1/\qs i64 A (length b_1.h+1=length
 (b_1.h++[1+Int.tmod (Int.fdiv b.m (2 ^ min zz3 64)) 2])/\length b_1.h+1=length (b_1.h++[1+Int.tmod (Int.fdiv b.m (2 ^ min zz3 64)) 2])/\b_1.h++[1+Int.tmod (Int.fdiv b.m (2
 ^ min zz3 64)) 2]=b_1.h++[1+Int.tmod (Int.fdiv b.m (2 ^ min zz3 64)) 2]/\Cont.vals [AV.imm (Cont.ints i64 A) (length A) none,AV.imm (Cont.ints u8 K) (length K) none]=Cont.vals
 [AV.imm (Cont.ints i64 A) (length A) none,AV.imm (Cont.ints u8 K) (length K) none]/\ql K (qx (Cont.vals (A1l A (A1a A K))) (qx zz2 (qx zz2 (qx (↑zz7:Int) (b.t=b.t/\b.s=b.s/\b.m
 =b.m/\0=0/\false=false/\qx (b_1.i+1) ((∃(i:Nat),b_1.i+1=(↑i:Int)/\i<=length K/\false=B5w K (hM (length K) b.m) i/\b_1.h++[1+Int.tmod (Int.fdiv b.m (2 ^ min zz3
 64)) 2]=take i (hM (length K) b.m))/\length K-Int.toNat (b_1.i+1)<length K-Int.toNat b_1.i/\True))))))))))))/\(ltb b_1.i (↑(length K):Int)=false->qx (length b_1.h) ((length
 A=length A/\qx (length b_1.h) (length A<1000000000/\length b_1.h<1000000000))/\((dcd A b_1.h !=0)=true->false=true/\True)/\((dcd A b_1.h !=0)=false->((!b_1.f)=true->
 inR i64 (b.m+1)=true/\1=1/\c=c/\l=l/\qs u8 ks (length A=length A/\qx (ofA c l ks) (length K=length K/\ofK c ks=ofK c ks/\1=1/\length A=length A/\length K=
 length K/\Cont.vals [AV.imm (Cont.ints i64 A) (length A) none,AV.imm (Cont.ints u8 K) (length K) none]=Cont.vals [AV.imm (Cont.ints i64 A) (length A) none,AV.imm (Cont.ints u8 K)
 (length K) none]/\ql K (qx (Cont.vals (A1l A (A1a A K))) (qx zz2 (qx zz2 (qx (↑zz7:Int) (b.t=b.t/\b.s=b.s/\b.m+1=b.m+1/\zz9/\2 ^ length K-Int.toNat (b.m+1)<2 ^
 length K-Int.toNat b.m/\True))))))))/\((!b_1.f)=false->((!(okD A b_1.h&&A2A A b_1.h))=true->inR i64 (b.m+1)=true/\1=1/\c=c/\l=l/\qs u8 ks (length A=length A/\
 qx (ofA c l ks) (length K=length K/\ofK c ks=ofK c ks/\1=1/\length A=length A/\length K=length K/\Cont.vals [AV.imm (Cont.ints i64 A) (length A) none,AV.imm (Cont.ints u8 K)
 (length K) none]=Cont.vals [AV.imm (Cont.ints i64 A) (length A) none,AV.imm (Cont.ints u8 K) (length K) none]/\ql K (qx (Cont.vals (A1l A (A1a A K))) (qx zz2 (qx zz2 (qx (↑zz7:Int)
 (b.t=b.t/\b.s=b.s/\b.m+1=b.m+1/\zz9/\2 ^ length K-Int.toNat (b.m+1)<2 ^ length K-Int.toNat b.m/\True))))))))/\((!(okD A b_1.h&&A2A A b_1.h))=false->(zz4=true
 ->zz4=true)/\(zz4=true->zz4=true)/\(zz4=true->leb 0 b.t=true)/\(zz4=true->ltb b.t (↑zz2:Int)=true)/\(zz4=true->ltn 0 (Cont.size (Cont.vals (A1l A (A1a A K))))=
 true)/\(zz4=true->zz4=true)/\(zz4=true->(drop (Int.toNat b.t*2) (A1l A (A1a A K)))[0]? =some (AV.imm (Cont.ints i64 A) (length A) (some (length A))))/\(zz4=true->(drop
 (Int.toNat b.t*2) (A1l A (A1a A K)))[1]? =some (AV.imm (Cont.ints u8 (kA A K b.t)) zz10 (some zz10)))/\(zz4=true->zz4=true)/\(zz4=true->zz4=true)/\(zz4=true->length A=
 length A/\qx zz10 (length A=length A/\qx (length b_1.h) (length A<1000000000000/\length (kA A K b.t)<1000000000000)))/\(zz4=true->zz4=true)/\(bif leb (↑zz2:Int) b.t then
 true else !leb (↑zz2:Int) b.t&&true)=true/\(zz1=true->zz1=true)/\(zz1=true->zz1=true)/\(zz1=true->leb 0 b.t=true)/\(zz1=true->ltb b.t (↑zz2:Int)=true)/\(zz1
 =true->ltn 0 (Cont.size (Cont.vals (A1l A (A1a A K))))=true)/\(zz1=true->zz1=true)/\(zz1=true->zz1=true)/\(zz1=true->(drop 0 (drop (Int.toNat b.t*2) (A1l A (A1a A
 K))))[0]? =some (AV.imm (Cont.ints i64 A) (length A) (some (length A))))/\(zz1=true->zz1=true)/\(zz1=true->zz1=true)/\(zz1=true->zz1=true)/\(bif bif leb (↑zz2:Int) b.t
 then true else !zz8 then true else zz1&&true)=true/\(zz0=true->zz0=true)/\(zz0=true->zz0=true)/\(zz0=true->leb 0 b.t=true)/\(zz0=true->ltb b.t (↑zz2:Int)=true)
 /\(zz0=true->ltn 0 (Cont.size (Cont.vals (A1l A (A1a A K))))=true)/\(zz0=true->zz0=true)/\(zz0=true->zz0=true)/\(zz0=true->(drop 1 (drop (Int.toNat b.t*2) (A1l A
 (A1a A K))))[0]? =some (AV.imm (Cont.ints u8 (kA A K b.t)) zz10 (some zz10)))/\(zz0=true->zz0=true)/\(zz0=true->zz0=true)/\(zz0=true->zz0=true)/\(bif bif bif leb (↑zz2
 :Int) b.t then true else !zz8 then true else(↑(length A):Int) !=(↑(length K):Int)then true else zz0&&true)=true/\(zz5=true->false=true/\True)/\(zz5=false->(length A=
 length A/\qx (length b_1.h) (length A<1000000))/\((A39 A b_1.h !=0)=true->false=true/\True)/\((A39 A b_1.h !=0)=false->(ltb (↑zz11:Int) 1=true->false=true/\True)/\
 (ltb (↑zz11:Int) 1=false->inR i64 (b.s+(↑zz11:Int))=true/\inR i64 (b.t+1)=true/\inR i64 (b.m+1)=true/\1=1/\c=c/\l=l/\qs u8 ks (length A=length A/\qx (ofA c
 l ks) (length K=length K/\ofK c ks=ofK c ks/\1=1/\length A=length A/\length K=length K/\Cont.vals [AV.imm (Cont.ints i64 A) (length A) none,AV.imm (Cont.ints u8 K) (length K)
 none]=Cont.vals [AV.imm (Cont.ints i64 A) (length A) none,AV.imm (Cont.ints u8 K) (length K) none]/\ql K (qx (Cont.vals (A1l A (A1a A K))) (qx zz2 (qx zz2 (qx (↑zz7:Int) (b.t+1=
 b.t+1/\qx (b.s+(↑zz11:Int)) (b.m+1=b.m+1/\(∃(m:Nat),b.m+1=(↑m:Int)/\m<=2 ^ length K/\b.t+1=(↑(length (kN A K m)):Int)/\b.s+(↑zz11:Int)=B1L A (kN A K
 m))/\2 ^ length K-Int.toNat (b.m+1)<2 ^ length K-Int.toNat b.m/\True))))))))))))))))) (!bif bif leb (↑zz2:Int) b.t then true else !zz8 then true else(↑(length A):Int) !=
 (↑(length K):Int))) (!bif leb (↑zz2:Int) b.t then true else !zz8)) (getD (drop (Int.toNat b_1.i) K) 0 0==1+Int.tmod (Int.fdiv b.m (2 ^ min zz3 64)) 2)) (Int.toNat ((↑(length K):
 Int)-1-b_1.i))) (bif bif bif leb (↑zz2:Int) b.t then true else !zz8 then true else(↑(length A):Int) !=(↑(length K):Int)then true else(↑zz10:Int) !=(↑(length K):Int))) (eqB
 A A&&eqB (kA A K b.t) b_1.h)) (length (cwL A b_1.h)))))))))))/\(ltb b.m (1*2 ^ min zz12 64)=false->((b.t==(↑zz2:Int))=true->((b.s==(↑zz7:Int))=true->true=true/\True)
 /\((b.s==(↑zz7:Int))=false->false=true/\True))/\((b.t==(↑zz2:Int))=false->false=true/\True))) (!leb (↑zz2:Int) b.t)) (∃(m:Nat),b.m+1=(↑m:Int)/\m<=2 ^
 length K/\b.t=(↑(length (kN A K m)):Int)/\b.s=B1L A (kN A K m))) (length (kA A K b.t)))))))))))) (length (A1a A K))) (length (cwL A K))) (Int.toNat (↑(length K):Int))) (ofA c l
 ks) (ofK c ks)):=by kernel_rfl
end Go.Proofs.YthiammkiobbclaaGreatDoor.X
