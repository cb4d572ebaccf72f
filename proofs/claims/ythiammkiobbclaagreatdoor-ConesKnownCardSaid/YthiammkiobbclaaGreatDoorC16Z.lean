/-
 Cones: what the law of folding computes.
-/
import Derived.Test.YthiammkiobbclaaGreatDoorC15Z
set_option maxRecDepth 1000000
set_option linter.unusedVariables false
namespace Go.Proofs.YthiammkiobbclaaGreatDoor.X
open Go Go.Ab
def t33:List (Nat×CtE):=[(10,e25),(16,C1X),(31,C8C),(11,e11)]
def T33:Tab:=A2t t33 A3E
open List IntKind
theorem C6S (c l:Int)(ks:List Int):fnP (T33) G 10000 C7L (.r [] 0 (.r [] 5 (.r [] 49 (.r [] 49 (.r [yL 323,yL 327,yL 333] 950 .nil))))) ([fV c l ks]) ([.bool true]) ([])=(
 (fun(zz0:Nat)=>(qx (length ks) (okK ks))/\qx zz0 (qx (length (ofK c ks)) ((qx zz0 (qx (length (ofK c ks)) (length (ofA c l ks)<1000000)))/\qx zz0 (qx (length (ofK c ks)) ((qx zz0
 (qx (length (ofK c ks)) (length (ofA c l ks)<1000000/\length (ofK c ks)<1000000)))/\(A39 (ofA c l ks) (ofK c ks)==0)=true/\(chk (ofA c l ks) (ofK c ks)==0)=true/\(C4b (ofA
 c l ks) (ofK c ks)==ltb 0 (↑(length (cwL (ofA c l ks) (ofK c ks))):Int))=true/\true=true/\True))))) (length (ofA c l ks))):=by kernel_rfl
def A2N:List Int->List (List Int)
 |[]=>[[]]
 |x::k=>(bif x==1||x==3 then(A2N k).map (1::·)else[])++(bif x==2||x==3 then(A2N k).map (2::·)else[])
theorem C3H:(List.range 8).all (fun n=>(List.range (2 ^ n)).all fun m=>kB (m:Nat) (n:Nat)==1&&(kB ((m:Nat)+2 ^ n) (n:Nat)==2&&(List.range n).all fun i=>kB ((m:Nat)+2 ^ n) (i:Nat)==kB (m:Nat) (i:Nat)))=true:=by decide +kernel
theorem B9V {m:Int}{n:Nat}(hm:okM m n)(hn:n<8):kB m n=1/\kB (m+2 ^ n) n=2/\∀i:Nat,i<n->kB (m+2 ^ n) i=kB m i:=by
 obtain⟨h0,h1,_⟩:=hm;have h1':m.toNat<2 ^ n:=by
  have:((2 ^ n:Nat):Int)=2 ^ n:=by simp
  omega
 have:=List.all_eq_true.1 C3H n (List.mem_range.2 hn);have:=List.all_eq_true.1 this m.toNat (List.mem_range.2 h1');rw[show((m.toNat:Nat):Int)=m by omega]at this;simp only[Bool.and_eq_true,beq_iff_eq,List.all_eq_true,List.mem_range]at this;exact⟨this.1,this.2.1,this.2.2⟩
theorem B4s (m:Int)(n:Nat):kdM m (n+1)=kdM m n++[kB m n]:=by
 unfold kdM;rw[List.range_succ,List.map_append];rfl
theorem D1P {m:Int}{n:Nat}(h:okM m n)(hn:n<8):okM m (n+1)/\okM (m+2 ^ n) (n+1):=by
 obtain⟨h0,h1,h2⟩:=h;have:(2:Int) ^ (n+1)=2 ^ n+2 ^ n:=by rw[Int.pow_succ];omega
 have hp:(0:Int)<2 ^ n:=Int.pow_pos (by decide);exact⟨⟨h0,by omega,by omega⟩,⟨by omega,by omega,by omega⟩⟩
theorem A94 (k:List Int)(hk:k.length<=8):∀(f:Nat) (m:Int) (n:Nat),n+f=k.length->okM m n->chL k f m n=(A2N (k.drop n)).map (kdM m n++·)
 |0,m,n,h,hm=>by
  rw[List.drop_eq_nil_of_le (by omega)];simp[chL,A2N]
 |f+1,m,n,h,hm=>by
  have hn:n<k.length:=by omega
  have e:gR k (n:Int)=k[n]:=by
   unfold gR;rw[Int.toNat_natCast,List.getElem?_eq_getElem hn];rfl
  obtain⟨f1,f2,f3⟩:=B9V hm (by omega);obtain⟨o1,o2⟩:=D1P hm (by omega);have d1:kdM m (n+1)=kdM m n++[1]:=by rw[B4s,f1]
  have d2:kdM (m+2 ^ n) (n+1)=kdM m n++[2]:=by
   rw[B4s,f2]
   congr 1
   unfold kdM;exact List.map_congr_left fun i hi=>f3 i (List.mem_range.1 hi)
  have i1:=A94 k hk f m (n+1) (by omega) o1;have i2:=A94 k hk f (m+2 ^ n) (n+1) (by omega) o2;unfold chL;rw[i1,i2,d1,d2,List.drop_eq_getElem_cons hn];rw[show A2N (k[n]::k.drop (n+1))=(bif k[n]==1||k[n]==3 then(A2N (k.drop (n+1))).map (1::·)else[])++(bif k[n]==2||k[n]==3 then(A2N (k.drop (n+1))).map (2::·)else[])from rfl];have g1:A9V k n 0=(k[n]==1||k[n]==3):=by unfold A9V;rw[e];rfl
  have g2:A9V k n 1=(k[n]==2||k[n]==3):=by unfold A9V;rw[e];rfl
  rw[g1,g2,List.map_append]
  congr 1
  ·cases(k[n]==1||k[n]==3)with
   |false=>rfl
   |true=>
    rw[cond_true,cond_true,List.map_map];exact List.map_congr_left fun x _=>by simp
  ·cases(k[n]==2||k[n]==3)with
   |false=>rfl
   |true=>
    rw[cond_true,cond_true,List.map_map];exact List.map_congr_left fun x _=>by simp
theorem A7y {a k:List Int}(hc:chk a k=0):A1a a k=(A2N k).filter fun h=>A2A a h:=by
 obtain⟨h1,h2,h3⟩:=A1V hc;have hl:=A2k h2;unfold A1a A2Z;rw[if_pos hc,List.nil_append,A94 k (by omega) (k.length-0) 0 0 (by omega) ⟨by decide,by decide,by decide⟩]
 congr 1
 rw[List.drop_zero];show(A2N k).map (fun x=>[]++x)=_;simp
theorem A3y:∀{k x:List Int},x∈A2N k↔x.length=k.length/\(∀y∈x,y=1\/y=2)/\A6f k x=true
 |[],x=>by
  unfold A2N;rw[List.mem_singleton];constructor
  ·rintro rfl;exact⟨rfl,fun y hy=>(by cases hy),rfl⟩
  ·intro h;exact List.length_eq_zero_iff.1 h.1
 |c::k,x=>by
  unfold A2N;have ih:∀y,y∈A2N k↔_:=fun y=>A3y;rw[List.mem_append];constructor
  ·rintro(h|h)
   ·cases hb:(c==1||c==3)with
    |false=>rw[hb]at h;cases h
    |true=>
     rw[hb,cond_true,List.mem_map]at h;obtain⟨y,hy,rfl⟩:=h;obtain⟨e1,e2,e3⟩:=(ih y).1 hy;refine⟨by simp[e1],fun z hz=>?_,?_⟩
     ·rcases List.mem_cons.1 hz with rfl|hz
      ·exact .inl rfl
      ·exact e2 z hz
     ·rw[A2M,e3,Bool.and_true,Bool.or_comm,hb]
   ·cases hb:(c==2||c==3)with
    |false=>rw[hb]at h;cases h
    |true=>
     rw[hb,cond_true,List.mem_map]at h;obtain⟨y,hy,rfl⟩:=h;obtain⟨e1,e2,e3⟩:=(ih y).1 hy;refine⟨by simp[e1],fun z hz=>?_,?_⟩
     ·rcases List.mem_cons.1 hz with rfl|hz
      ·exact .inr rfl
      ·exact e2 z hz
     ·rw[A2M,e3,Bool.and_true,Bool.or_comm,hb]
  ·rintro⟨e1,e2,e3⟩
   match x,e1,e2,e3 with
   |y::x,e1,e2,e3=>
    rw[A2M,Bool.and_eq_true,Bool.or_comm]at e3;have hx:x∈A2N k:=(ih x).2 ⟨by simpa using e1,fun z hz=>e2 z (List.mem_cons_of_mem _ hz),e3.2⟩;rcases e2 y (List.mem_cons_self ..)with rfl|rfl
    ·left;rw[e3.1,cond_true];exact List.mem_map_of_mem hx
    ·right;rw[e3.1,cond_true];exact List.mem_map_of_mem hx
theorem B7X:∀(a h:List Int) (s:Int),a.length=h.length->(∀x∈a,1<=x)->a.sum<=s->(∀x∈h,x=1\/x=2)->okF a h s=true
 |[],[],s,_,_,_,_=>rfl
 |x::a,y::h,s,h0,h1,h2,h3=>by
  have hx:=h1 x (List.mem_cons_self ..);have hy:=h3 y (List.mem_cons_self ..);have hr:0<=a.sum:=A1o fun y hy=>by have:=h1 y (List.mem_cons_of_mem _ hy);omega
  rw[List.sum_cons]at h2;simp only[okF,Bool.and_eq_true,decide_eq_true_eq,Bool.or_eq_true,beq_iff_eq];exact⟨hx,by omega,hy,B7X a h _ (by simpa using h0) (fun z hz=>h1 z (List.mem_cons_of_mem _ hz)) (by omega) fun z hz=>h3 z (List.mem_cons_of_mem _ hz)⟩
 |[],y::h,s,h0,_,_,_=>by simp at h0
 |x::a,[],s,h0,_,_,_=>by simp at h0
theorem A3Z {a k x:List Int}(hc:chk a k=0)(hx:x∈A2N k):A2A a x=(A8p a&&(A5S a).contains x):=by
 obtain⟨h1,h2,h3⟩:=A1V hc;obtain⟨e1,e2,e3⟩:=A3y.1 hx;exact C3E (B7X a x 8 (by omega) h2.1 h2.2 e2)
theorem C3I {a k:List Int}(hc:chk a k=0):C4b a k=ltb 0 ((cwL a k).length:Nat):=by
 obtain⟨h1,h2,h3⟩:=A1V hc;unfold C4b;rw[A7y hc];have key:((A2N k).filter fun h=>A2A a h)≠[]↔cwL a k≠[]:=by
  rw[show((A2N k).filter fun h=>A2A a h)≠[]↔∃x∈A2N k,A2A a x=true by
   constructor
   ·intro h;obtain⟨x,hx⟩:=List.exists_mem_of_ne_nil _ h;obtain⟨e1,e2⟩:=List.mem_filter.1 hx;exact⟨x,e1,e2⟩
   ·rintro⟨x,hx,hf⟩ e;have:x∈(A2N k).filter fun h=>A2A a h:=List.mem_filter.2 ⟨hx,hf⟩;rw[e]at this;cases this]
  cases hs:A0l a k with
  |false=>
   rw[C3D hs];constructor
   ·rintro⟨x,hx,hf⟩;rw[A3Z hc hx,<- A7x hc,hs]at hf;cases hf
   ·intro h;exact absurd rfl h
  |true=>
   rw[C0Q hs];have hab:=(A1d.1 hs).2;constructor
   ·rintro⟨x,hx,hf⟩;rw[A3Z hc hx,hab,Bool.true_and]at hf;obtain⟨e1,e2,e3⟩:=A3y.1 hx;exact⟨x,List.contains_iff_mem.1 hf,by rw[A7w _ _ e1];exact e3⟩
   ·rintro⟨x,hx,hf⟩;obtain⟨_,e1,e2⟩:=A8x hs x hx;have hx2:x∈A2N k:=A3y.2 ⟨by omega,e2,by rw[<- A7w _ _ (by omega)];exact hf⟩;exact⟨x,hx2,by rw[A3Z hc hx2,hab,Bool.true_and];exact List.contains_iff_mem.2 hx⟩
 have pos:∀l:List (List Int),ltb 0 (l.length:Nat)=true↔l≠[]:=fun l=>by
  rw[A0h];cases l with
  |nil=>simp
  |cons x l=>simp
 rw[Bool.eq_iff_iff,pos,pos,key]
set_option linter.unusedSimpArgs false
theorem C6T {a k:List Int}(hc:chk a k=0):A39 a k=0:=by
 unfold A39 ofE;rw[if_pos hc];split<;>simp
theorem D1Q:TabOk Tryz.prog G T33:=A0q A0C ⟨C2l,B7B,C6v,B2M,trivial⟩
theorem D7G (c l:Int)(ks:List Int)(hk:okK ks):SpecP Tryz.prog G 33 [fV c l ks] (.bool true) []:=by
 refine A0e hcm hmx D1Q D2V rfl (C6S c l ks) ?_;dsimp -failIfUnchanged -proj -eta -iota -zeta only[rd,rdw,qs,ql,qx];obtain⟨h1,h2,h3,h4⟩:=B2v (c:=c) (l:=l) hk;have hc:=A8s (c:=c) (l:=l) hk;generalize ofA c l ks=a at*;generalize ofK c ks=k at*;have hf:=C3I hc;have h0:=C6T hc;rw[hf,h0,hc];simp only[and_true,true_and,beq_self_eq_true];exact⟨hk,by omega,⟨by omega,by omega⟩⟩
end Go.Proofs.YthiammkiobbclaaGreatDoor.X
