/-
 Cones: the contracts of folding, checking and deciding.
-/
import Derived.Test.YthiammkiobbclaaGreatDoorC4Z
set_option maxRecDepth 1000000
set_option linter.unusedVariables false
set_option linter.unusedSimpArgs false
namespace Go.Proofs.YthiammkiobbclaaGreatDoor.X
open Go Go.Ab
theorem B34:∀(a:List Int) (x:Int) (p:Bool),(A8q x p a).length=a.length+1
 |[],x,p=>rfl
 |a::r,x,p=>by simp only[A8q,List.length_cons,B34 r]
theorem A1W (a:List Int):(A0b a).length=a.length+1:=B34 a 0 true
def sgI (m:Nat):Int:=1-2*(m:Int).tmod 2
theorem C52:sgI 0=1:=rfl
theorem D0o (m:Nat):sgI (m+1)= -sgI m:=by
 unfold sgI;rw[Int.tmod_eq_emod_of_nonneg (by omega),Int.tmod_eq_emod_of_nonneg (by omega)];omega
theorem A9P:∀(a:List Int) (x:Int) (p:Bool) (m:Nat),m<a.length->(A8q x p a)[m+1]?.getD 0=(A8q x p a)[m]?.getD 0+a[m]?.getD 0*((bif p then 1 else -1)*sgI m)
 |[],x,p,m,h=>by simp at h
 |a::r,x,p,0,h=>by
  cases r with
  |nil=>cases p<;>simp[A8q,C52]<;>omega
  |cons b r=>cases p<;>simp[A8q,C52]<;>omega
 |a::r,x,p,m+1,h=>by
  have:=A9P r (bif p then x+a else x-a) (!p) m (by simpa using h);simp only[A8q,List.getElem?_cons_succ];rw[this,D0o];cases p<;>simp
theorem B1p {a:List Int}{m:Nat}(h:m<a.length):(A0b a).take (m+2)=(A0b a).take (m+1)++[((A0b a).take (m+1))[m]?.getD 0+a[m]?.getD 0*(1-2*(m:Int).tmod 2)]:=by
 have hl:=A1W a;rw[List.take_add_one (i:=m+1)];have h1:m+1<(A0b a).length:=by omega
 have hg:=A9P a 0 true m h;have e:(A0b a)[m+1]?.getD 0=(A0b a)[m+1]:=by rw[List.getElem?_eq_getElem h1];rfl
 have hg':(A0b a)[m+1]=(A0b a)[m]?.getD 0+a[m]?.getD 0*sgI m:=by
  rw[<- e];show(A8q 0 true a)[m+1]?.getD 0=(A8q 0 true a)[m]?.getD 0+_;rw[hg];simp
 rw[List.getElem?_eq_getElem h1,hg',List.getElem?_take_of_lt (by omega)];rfl
theorem B7m:∀(a:List Int) (x:Int) (p:Bool),(∀y∈a,1<=y)->∀y∈A8q x p a,x-a.sum<=y/\y<=x+a.sum
 |[],x,p,h,y,hy=>by
  simp only[A8q,List.mem_singleton]at hy;subst hy;simp
 |a::r,x,p,h,y,hy=>by
  have ha:=h a (List.mem_cons_self ..);have hr:0<=r.sum:=A1o fun x hx=>by have:=h x (List.mem_cons_of_mem _ hx);omega
  simp only[A8q,List.mem_cons]at hy;rw[List.sum_cons];rcases hy with rfl|hy
  ·omega
  ·have:=B7m r _ _ (fun z hz=>h z (List.mem_cons_of_mem _ hz)) y hy;cases p<;>simp at this<;>omega
theorem B7n {a:List Int}(h:okA a):∀y∈A0b a,-8<=y/\y<=8:=fun y hy=>by
 have:=B7m a 0 true h.1 y hy;have:=h.2;omega
theorem A2k {a:List Int}(h:okA a):a.length<=8:=by
 obtain⟨h1,h2⟩:=h
 suffices ∀l:List Int,(∀x∈l,1<=x)->(l.length:Int)<=l.sum by have:=this a h1;omega
 intro l
 induction l with
 |nil=>simp
 |cons x l ih=>
  intro h;have:=ih fun y hy=>h y (List.mem_cons_of_mem _ hy);have:=h x (List.mem_cons_self ..);rw[List.length_cons,List.sum_cons];omega
theorem B2C:∀(p:Bool) (a:List Int),(∀x∈a,1<=x)->0<=A2X p a/\A2X p a<=a.sum
 |p,[],h=>by simp[A2X]
 |p,a::r,h=>by
  have ha:=h a (List.mem_cons_self ..);have:=B2C (!p) r fun z hz=>h z (List.mem_cons_of_mem _ hz);simp only[A2X,List.sum_cons];cases p<;>simp at this ⊢<;>omega
theorem B35:∀(p:Bool) (a b:List Int),A2X p (a++b)=A2X p a+A2X (xor p ((a.length:Nat)%2==1)) b
 |p,[],b=>by simp[A2X]
 |p,x::a,b=>by
  rw[List.cons_append];simp only[A2X];rw[B35 (!p) a b,List.length_cons];have:(xor (!p) (a.length%2==1))=xor p ((a.length+1)%2==1):=by
   have h2:a.length%2=0\/a.length%2=1:=by omega
   rcases h2 with h2|h2
   ·have:(a.length+1)%2=1:=by omega
    rw[h2,this];cases p<;>rfl
   ·have:(a.length+1)%2=0:=by omega
    rw[h2,this];cases p<;>rfl
  rw[this];omega
theorem B1q {p:Bool}{a:List Int}{m:Nat}(h:m<a.length):A2X p (a.take (m+1))=A2X p (a.take m)+(bif xor p (m%2==1)then a[m]?.getD 0 else 0):=by
 rw[List.take_add_one,List.getElem?_eq_getElem h,B35,List.length_take,Nat.min_eq_left (by omega)];show _+((bif xor p (m%2==1)then a[m]else 0)+0)=_;rw[Int.add_zero];rfl
theorem B9w (a k:List Int):chk a k=0\/chk a k=1\/chk a k=5:=by
 have h:∀(a k:List Int) (s:Int),A4s a k s=0\/A4s a k s=1:=by
  intro a
  induction a with
  |nil=>intro k s;left;cases k<;>rfl
  |cons x a ih=>
   intro k s;cases k with
   |nil=>left;rfl
   |cons y k=>
    simp only[A4s];split
    ·right;rfl
    ·exact ih k _
 unfold chk;split
 ·rcases h a k 0 with h|h<;>rw[h]<;>decide
 ·decide
theorem A1d {a k:List Int}:A0l a k=true↔chk a k=0/\A8p a=true:=by
 unfold A0l;rw[Bool.and_eq_true,beq_iff_eq]
theorem B2D {a k:List Int}(h:A0l a k=true):ofE a k=0:=by
 obtain⟨h1,h2⟩:=A1d.1 h;unfold ofE;rw[if_pos h1,if_pos h2]
theorem B7o {a k:List Int}(h:A0l a k=false):ofE a k≠0:=by
 unfold ofE;split
 ·rename_i h1;split
  ·rename_i h2;rw[A1d.2 ⟨h1,h2⟩]at h;cases h
  ·decide
 ·assumption
theorem A9Q {a k:List Int}:(ofE a k==0)=A0l a k:=by
 cases h:A0l a k with
 |true=>rw[B2D h];rfl
 |false=>exact beq_false_of_ne (B7o h)
theorem A6b {o:List Int}{n:Nat}:C8s o n=true↔∀j:Nat,j<n->(j:Int)∈o:=by
 unfold C8s;rw[List.all_eq_true];constructor
 ·intro h j hj;exact A1B.1 (h j (List.mem_range.2 hj))
 ·intro h x hx;exact A1B.2 (h x (List.mem_range.1 hx))
theorem A6c:∀(l o:List Int),l.Nodup->(∀x∈l,x∈o)->o.length=l.length->o.Perm l
 |[],o,_,_,h=>by rw[List.length_eq_zero_iff.1 h]
 |x::r,o,hn,hs,hl=>by
  have hx:=hs x (List.mem_cons_self ..);obtain⟨hxr,hn⟩:=List.nodup_cons.1 hn;refine(List.perm_cons_erase hx).trans (List.Perm.cons x (A6c r (o.erase x) hn (fun y hy=>?_) ?_))
  ·exact(List.mem_erase_of_ne fun e=>hxr (by rw[<- e];exact hy)).2 (hs y (List.mem_cons_of_mem _ hy))
  ·rw[List.length_erase_of_mem hx,hl];rfl
def idO (n:Nat):List Int:=(List.range n).map fun(i:Nat)=>(i:Int)
theorem A1S {n:Nat}{x:Int}:x∈idO n↔0<=x/\x<n:=by
 unfold idO;rw[List.mem_map];constructor
 ·rintro⟨i,hi,rfl⟩;have:=List.mem_range.1 hi;omega
 ·intro h;exact⟨x.toNat,List.mem_range.2 (by omega),by omega⟩
theorem A7i (n:Nat):(idO n).Nodup:=by
 unfold idO;rw[List.Nodup,List.pairwise_map];exact(List.nodup_range (n:=n)).imp fun h e=>h (by omega)
theorem A4w (n:Nat):(idO n).length=n:=by unfold idO;rw[List.length_map,List.length_range]
theorem B36 {a k o:List Int}(h:A4v a k o=0):A0l a k=true/\o.length=a.length/\o.Perm (idO a.length):=by
 unfold A4v at h;split at h
 ·rename_i h1;have ha:A0l a k=true:=by rw[<- A9Q,h1];rfl
  split at h
  ·rename_i h2;split at h
   ·rename_i h3;refine⟨ha,h2,A6c _ _ (A7i _) (fun x hx=>?_) (by rw[A4w];exact h2)⟩;obtain⟨hx1,hx2⟩:=A1S.1 hx;have:=A6b.1 h3 x.toNat (by omega)
    rwa [show((x.toNat:Nat):Int)=x by omega]at this
   ·cases h
  ·cases h
 ·rename_i h1;exact absurd h h1
theorem A2m {o:List Int}{n:Nat}(h:o.Perm (idO n))(hn:n<=8):okO o:=by
 refine⟨by rw[h.length_eq,A4w];exact hn,fun x hx=>?_⟩;have:=A1S.1 (h.mem_iff.1 hx);omega
theorem A1O {f:Nat}{a k:List Int}{n m:Nat}{c1 c2:Option Nat}{rest:List AV}{v:AV}{bs:List Blk}(h:SpecP Tryz.prog G f (.agg [.imm (.ints .i64 a) n none,.imm (.ints .u8 k) m none]::rest) v bs):
  SpecP Tryz.prog G f (.agg [.imm (.ints .i64 a) n c1,.imm (.ints .u8 k) m c2]::rest) v bs:=h.args fun w F xs h=>by
 cases h with
 |cons _ _ _ _ h1 h2=>exact .cons _ _ _ _ h1.caps h2
theorem A3h {f:Nat}{a k o:List Int}{n m p:Nat}{c1 c2 c3:Option Nat}{rest:List AV}{v:AV}{bs:List Blk}(h:SpecP Tryz.prog G f (.agg [.imm (.ints .i64 a) n none,.imm (.ints .u8 k) m none]:: .imm (.ints .i64 o) p none::rest) v bs):
  SpecP Tryz.prog G f (.agg [.imm (.ints .i64 a) n c1,.imm (.ints .u8 k) m c2]:: .imm (.ints .i64 o) p c3::rest) v bs:=h.args fun w F xs h=>by
 cases h with
 |cons _ _ _ _ h1 h2=>
  cases h2 with
  |cons _ _ _ _ h3 h4=>exact .cons _ _ _ _ h1.caps (.cons _ _ _ _ h3.caps h4)
theorem D0p:A1j Tryz.prog G 79 C9K:=by
 intro args r h hp;unfold C9K at h;split at h<;>cases h;rename_i a n _ k m _;obtain⟨rfl,rfl,hc⟩:=hp;refine A1O (A0e hcm hmx A3w D38 rfl (C19 a k) ?_);dsimp -failIfUnchanged -proj -eta -iota -zeta only[rd,rdw,qs,ql,qx];have hA:=(A1V hc).2.1;have hl:=A2k hA;simp only[A0p,and_true,true_and,A0k,A0h,A0x,A0u,iI,A0i,List.length_drop,List.getD_eq_getElem?_getD,List.getElem?_drop,Nat.add_zero,beq_iff_eq,beq_eq_false_iff_ne,ne_eq];refine⟨⟨0,rfl,by omega,rfl,rfl⟩,?_⟩;rintro⟨i,e,o⟩ ⟨m,hi,hm,he,ho⟩;simp only at hi he ho ⊢;subst hi he ho;simp only[Int.toNat_natCast];refine⟨fun hlt=>?_,fun hge=>?_⟩
 ·have g:m<a.length:=by omega
  have t1:=B1q (p:=true) g;have t2:=B1q (p:=false) g;have ht:∀x∈a.take (m+1),1<=x:=fun x hx=>hA.1 x (List.mem_of_mem_take hx);have hs:(a.take (m+1)).sum<=8:=by
   have e:(a.take (m+1)).sum+(a.drop (m+1)).sum=a.sum:=by rw[<- List.sum_append,List.take_append_drop]
   have:=A9M hA (m+1);have:=hA.2;omega
  have b1:=B2C true _ ht;have b2:=B2C false _ ht;have h2:m%2=0\/m%2=1:=by omega
  have hm2:((m:Int).tmod 2)=((m%2:Nat):Int):=by rw[Int.tmod_eq_emod_of_nonneg (by omega)];omega
  rw[hm2];rcases h2 with h2|h2
  ·rw[h2]at t1 t2 ⊢;simp at t1 t2;refine⟨by omega,by omega,by omega,by omega,fun _=>⟨by omega,by omega,⟨m+1,by omega,by omega,by omega,by omega⟩,by omega⟩,fun h=>absurd rfl h⟩
  ·rw[h2]at t1 t2 ⊢;simp at t1 t2;refine⟨by omega,by omega,by omega,by omega,fun h=>by omega,fun _=>⟨by omega,by omega,⟨m+1,by omega,by omega,by omega,by omega⟩,by omega⟩⟩
 ·rw[List.take_of_length_le (by omega)];exact⟨rfl,rfl⟩
theorem D0q:A1j Tryz.prog G 56 C9L:=by
 intro args r h hp;unfold C9L at h;split at h<;>cases h;obtain⟨rfl,rfl⟩:=hp;exact A1O (A0e hcm hmx A3w D3z rfl (C2a _ _) (by simp))
theorem C53:TabOk Tryz.prog G D4D:=A0q A0C ⟨D0p,trivial⟩
theorem D0r:A1j Tryz.prog G 57 C9M:=by
 intro args r h hp;unfold C9M at h;split at h<;>cases h;obtain⟨rfl,rfl,hc⟩:=hp;exact A1O (A0e hcm hmx C53 D3B rfl (C2b _ _) (by simp[hc]))
theorem D0s:TabOk Tryz.prog G TB2:=A0q A0C ⟨C91,D0q,D0r,trivial⟩
theorem D0t:A1j Tryz.prog G 34 C9N:=by
 intro args r h hp;unfold C9N at h;split at h<;>cases h;rename_i a n _ k m _;obtain⟨rfl,rfl,hz⟩:=hp;refine A1O (A0e hcm hmx D0s D2X rfl (C2c a k) ?_);simp only[and_true,true_and,bne_iff_ne,ne_eq,bne_eq_false_iff_eq];unfold A0l A8p;refine⟨by omega,fun h=>?_,fun h=>⟨fun h2=>⟨h,?_⟩,fun h2=>?_⟩⟩
 ·rw[beq_false_of_ne h];rfl
 ·simp[h,h2]
 ·simp[h,h2]
theorem C54:TabOk Tryz.prog G TB3:=A0q A0C ⟨D0t,trivial⟩
theorem C2J:A1j Tryz.prog G 13 C47:=by
 intro args r h hp;unfold C47 at h;split at h<;>cases h;rename_i a n _ k m _;obtain⟨rfl,rfl,hz⟩:=hp;refine A1O (A0e hcm hmx C54 D2k rfl (C2d a k) ?_);simp only[and_true,true_and];refine⟨hz,fun h=>?_,fun h=>h.symm⟩;rw[h,(A1d.1 h).1];rfl
theorem B9x:A1j Tryz.prog G 37 C38:=by
 intro args r h hp;unfold C38 at h;split at h<;>cases h;rename_i a n _ k m _;obtain⟨rfl,rfl,hz⟩:=hp;refine A1O (A0e hcm hmx C54 D23 rfl (C2e a k) ?_);dsimp -failIfUnchanged -proj -eta -iota -zeta only[rd,rdw,qs,ql,qx];cases hs:A0l a k with
 |false=>
  have e1:∀l,bLs false l=[]:=fun l=>rfl;simp only[e1,and_true,true_and,A0i,List.length_nil,Bool.not_false,imp_self,beq_iff_eq,beq_eq_false_iff_ne,ne_eq,bne_iff_ne,bne_eq_false_iff_eq,Bool.false_eq_true,false_imp_iff,forall_const,true_imp_iff];refine⟨hz,fun h=>⟨h,?_⟩,fun h=>⟨h,?_⟩⟩
  ·unfold ofE;rw[if_pos h,if_neg];intro h2;rw[A1d.2 ⟨h,h2⟩]at hs;cases hs
  ·unfold ofE;rw[if_neg h]
 |true=>
  obtain⟨hc,hb⟩:=A1d.1 hs;have hA:=(A1V hc).2.1;have hl:=A2k hA;have hrb:=B7n hA;have hrl:=A1W a;have e1:∀l,bLs true l=l:=fun l=>rfl;simp only[hc,B2D hs,e1,A0p,and_true,true_and,A0k,A0h,A0x,A0u,A0t,iI,A0i,List.length_drop,List.length_append,List.length_cons,List.length_nil,List.getD_eq_getElem?_getD,List.getElem?_drop,Nat.add_zero,Nat.zero_add,beq_iff_eq,beq_eq_false_iff_ne,ne_eq,bne_iff_ne,bne_eq_false_iff_eq,Bool.not_true,forall_const,true_imp_iff,not_true_eq_false,false_imp_iff,Bool.true_eq_false,reduceCtorEq];refine⟨hz,⟨0,rfl,by omega,?_⟩,?_⟩
  ·show[0]=(A8q 0 true a).take 1;cases a<;>rfl
  rintro⟨i,r⟩ ⟨m,hi,hm,hr⟩;simp only at hi hr ⊢;subst hi hr;simp only[Int.toNat_natCast];refine⟨fun hlt=>?_,fun hge=>?_⟩
  ·have g:m<a.length:=by omega
   have hst:=B1p g;have htl:((A0b a).take (m+1)).length=m+1:=by rw[List.length_take];omega
   have ha:1<=a[m]?.getD 0/\a[m]?.getD 0<=8:=by
    have h1:=B65 hA g;have:a[m]?.getD 0<=a.sum:=by
     have e:(a.take m).sum+(a.drop m).sum=a.sum:=by rw[<- List.sum_append,List.take_append_drop]
     have e2:(a.drop m).sum=a[m]?.getD 0+(a.drop (m+1)).sum:=by rw[List.drop_eq_getElem_cons g,List.sum_cons,List.getElem?_eq_getElem g];rfl
     have:=A9M hA (m+1);have:0<=(a.take m).sum:=A1o fun x hx=>by have:=hA.1 x (List.mem_of_mem_take hx);omega
     omega
    have:=hA.2;omega
   have hy: -8<=((A0b a).take (m+1))[m]?.getD 0/\((A0b a).take (m+1))[m]?.getD 0<=8:=by
    have hm1:m<((A0b a).take (m+1)).length:=by omega
    rw[List.getElem?_eq_getElem hm1];exact hrb _ (List.mem_of_mem_take (List.getElem_mem hm1))
   have ht:(m:Int).tmod 2=0\/(m:Int).tmod 2=1:=by rw[Int.tmod_eq_emod_of_nonneg (by omega)];omega
   rw[<- hst];rcases ht with ht|ht
   ·rw[ht]at hst ⊢;refine⟨by omega,by omega,by omega,by omega,by omega,by omega,by omega,by omega,by omega,by omega,by omega,by omega,by omega,⟨m+1,by omega,by omega,rfl⟩,by omega⟩
   ·rw[ht]at hst ⊢;refine⟨by omega,by omega,by omega,by omega,by omega,by omega,by omega,by omega,by omega,by omega,by omega,by omega,by omega,⟨m+1,by omega,by omega,rfl⟩,by omega⟩
  ·rw[List.take_of_length_le (by omega)];exact⟨rfl,rfl⟩
theorem D0u:TabOk Tryz.prog G TB4:=A0q A0C ⟨B9x,C8w,trivial⟩
theorem C55:A1j Tryz.prog G 26 C8r:=by
 intro args r h hp;unfold C8r at h;split at h<;>cases h;rename_i a n _ k m _;obtain⟨rfl,rfl,hz⟩:=hp;refine A1O (A0e hcm hmx D0u D2I rfl (C2f a k) ?_);dsimp -failIfUnchanged -proj -eta -iota -zeta only[rd,rdw,qs,ql,qx];rw[A9Q];have hl:=A1W a;cases hs:A0l a k with
 |true=>
  have e1:∀l,bLs true l=l:=fun l=>rfl;have e0:=B2D hs;simp[e0,e1,hl,hz,A0t,A0i,List.length_take]
 |false=>
  have e1:∀l,bLs false l=[]:=fun l=>rfl;have e0:=B7o hs;simp[e0,e1,hz,A0i]
theorem D0v:TabOk Tryz.prog G TB5:=A0q A0C ⟨B9x,D4I,trivial⟩
theorem D0w:A1j Tryz.prog G 50 C9O:=by
 intro args r h hp;unfold C9O at h;split at h<;>cases h;rename_i a n _ k m _ o p _;obtain⟨rfl,rfl,hz,rfl,hy⟩:=hp;refine A3h (A0e hcm hmx D0v D3p rfl (C2g a k o) ?_);dsimp -failIfUnchanged -proj -eta -iota -zeta only[rd,rdw,qs,ql,qx];simp only[A0p,and_true,true_and,A0k,A0h,A0x,beq_iff_eq,beq_eq_false_iff_ne,ne_eq,bne_iff_ne,bne_eq_false_iff_eq,Int.natCast_inj,iI,Bool.not_eq_true',Bool.not_eq_false'];refine⟨hz,fun e0=>⟨e0,fun hne=>?_,fun hl=>⟨⟨0,rfl,by omega,fun j hj=>by omega⟩,?_⟩⟩,fun e0=>⟨e0,?_⟩⟩
 ·unfold A4v;rw[if_pos e0,if_neg hne]
 ·rintro⟨i⟩ ⟨m,hi,hm,hf⟩;simp only at hi hf ⊢;subst hi;simp only[Int.toNat_natCast];refine⟨fun hlt=>⟨by omega,fun hb=>?_,fun hb=>⟨by omega,⟨m+1,by omega,by omega,fun j hj=>?_⟩,by omega⟩⟩,fun hge=>?_⟩
  ·unfold A4v;rw[if_pos e0,if_pos hl,if_neg];rw[A6b];intro h;rw[A1B.2 (h m (by omega))]at hb;cases hb
  ·by_cases hj':j<m
   ·exact hf j hj'
   ·rw[show j=m by omega];exact hb
  ·unfold A4v;rw[if_pos e0,if_pos hl,if_pos];rw[A6b];exact fun j hj=>A1B.1 (hf j (by omega))
 ·unfold A4v;rw[if_neg e0]
theorem D0x:TabOk Tryz.prog G TB6:=A0q A0C ⟨D0w,C5F,C93,C94,trivial⟩
theorem A1C {a k:List Int}(h:A0l a k=true):a.length=k.length/\a.length<=8/\okA a/\∀x∈k,1<=x/\x<=3:=by
 obtain⟨h1,h2,h3⟩:=A1V (A1d.1 h).1;exact⟨h1,A2k h2,h2,h3⟩
theorem C2K:A1j Tryz.prog G 27 C48:=by
 intro args r h hp;unfold C48 at h;split at h<;>cases h;rename_i a n _ k m _ o p _;obtain⟨rfl,rfl,hz,rfl,hy⟩:=hp;refine A3h (A0e hcm hmx D0x D2K rfl (C2h a k o) ?_);simp only[and_true,true_and,beq_iff_eq,beq_eq_false_iff_ne,ne_eq,bne_iff_ne,bne_eq_false_iff_eq];refine⟨⟨hz,hy⟩,fun h=>?_,fun h=>?_⟩
 ·unfold A3n;rw[if_neg h]
 ·obtain⟨hs,hl,hpm⟩:=B36 h;obtain⟨f1,f2,f3,f4⟩:=A1C hs;have e1:∀l,bLs true l=l:=fun l=>rfl;have hrl:=A1W a;rw[hs];simp only[e1];have hc:=A2e a k (A0b a);refine⟨A2m hpm f2,⟨hc,f2,hrl⟩,fun h1=>?_,fun h1=>⟨⟨hc,f2,f1.symm⟩,fun h2=>?_,fun h2=>?_⟩⟩
  ·unfold A3n;rw[if_pos h,if_pos h1]
  ·unfold A3n;rw[if_pos h,if_neg (by rw[h1];simp),if_pos h2]
  ·unfold A3n;rw[if_pos h,if_neg (by rw[h1];simp),if_neg (by rw[h2];simp)]
theorem C56:A1j Tryz.prog G 41 (A9L .i64):=by
 intro args r h hp;unfold A9L at h;split at h
 ·rename_i k1 a n _;rw[cond_eq_ite]at h;split at h
  ·rename_i hb;cases A50 hb;cases h;obtain⟨rfl,hz⟩:=hp;refine(A0e hcm hmx A3w C4w rfl (C2i a) ?_:SpecP Tryz.prog G 41 [A3X .i64 a] _ []).caps;simp only[A0u,A0t,A0i,Nat.zero_add,List.nil_append,and_true,true_and];omega
  ·cases h
 ·cases h
theorem D0y:TabOk Tryz.prog G TB7:=A0q A0C ⟨C2K,B9x,C56,C8w,C5F,D4M,trivial⟩
theorem B9y (a k:List Int):ofE a k=0\/ofE a k=1\/ofE a k=5\/ofE a k=14:=by
 unfold ofE;split
 ·split<;>decide
 ·rcases B9w a k with h|h|h<;>rw[h]<;>decide
theorem B7p (a k o:List Int):A4v a k o=0\/A4v a k o=1\/A4v a k o=5\/A4v a k o=14:=by
 unfold A4v;split
 ·split
  ·split<;>decide
  ·decide
 ·exact B9y a k
theorem C2L {a k o:List Int}(h:A3n a k o=0\/A3n a k o=13):A4v a k o=0:=by
 unfold A3n at h;split at h
 ·assumption
 ·have:=B7p a k o;omega
theorem A9R (a o:List Int):(kdL a o).length=a.length:=by unfold kdL;rw[List.length_map,List.length_range]
theorem C2M {a o:List Int}{m:Nat}(h:m<a.length):((kdL a o).take m++List.replicate (a.length-m) 0).set m (kdI a.length (rkL o) m)=(kdL a o).take (m+1)++List.replicate (a.length-(m+1)) 0:=by
 have hl:((kdL a o).take m).length=m:=by rw[List.length_take,A9R];omega
 have e:(kdL a o)[m]? =some (kdI a.length (rkL o) m):=by
  unfold kdL;rw[List.getElem?_map,List.getElem?_range h];rfl
 rw[List.set_append,if_neg (by omega),hl,Nat.sub_self,List.take_add_one,e,show a.length-m=(a.length-(m+1))+1 by omega,List.replicate_succ,List.set_cons_zero];simp
theorem D0z:A1j Tryz.prog G 29 C9P:=by
 intro args r h hp;unfold C9P at h;split at h<;>cases h;rename_i a n _ k m _ o p _;obtain⟨rfl,rfl,hz,rfl,hy⟩:=hp;refine A3h (A0e hcm hmx D0y D2O rfl (C2j a k o) ?_);dsimp -failIfUnchanged -proj -eta -iota -zeta only[rd,rdw,qs,ql,qx];have key:∀(hv:A3n a k o=0\/A3n a k o=13),A1e a k o=true/\B1j a k o=0/\A0l a k=true/\okO o/\a.length=k.length/\a.length<=8:=by
  intro hv;obtain⟨hs,hl,hpm⟩:=B36 (C2L hv);obtain⟨f1,f2,f3,f4⟩:=A1C hs;refine⟨?_,?_,hs,A2m hpm f2,f1,f2⟩
  ·unfold A1e;rcases hv with h|h<;>rw[h]<;>rfl
  ·unfold B1j;rcases hv with h|h<;>rw[h]<;>rfl
 have e1:∀l,bLs true l=l:=fun l=>rfl;have e2:∀l,bLs false l=[]:=fun l=>rfl;have hkl:=A9R a o;simp only[A0p,and_true,true_and,A0k,A0h,A0x,A0t,beq_iff_eq,beq_eq_false_iff_ne,ne_eq,bne_iff_ne,bne_eq_false_iff_eq,A0i,Int.toNat_natCast,Bool.not_eq_true',imp_self];refine⟨⟨hz,hy⟩,fun h=>⟨h,fun h2=>?_,fun h2=>?_⟩,fun h=>⟨h,?_⟩⟩
 ·have hd:A1e a k o=false:=by
   unfold A1e;rw[beq_false_of_ne h,beq_false_of_ne h2];rfl
  rw[hd];simp only[e2];refine⟨rfl,rfl,rfl,rfl,rfl,rfl,?_⟩;unfold B1j;rw[if_neg h2]
 all_goals
  obtain⟨k1,k2,k3,k4,k5,k6⟩:=key (by first|exact .inr h2|exact .inl h);have hc:=A2e a k (A0b a);rw[k1,k2,k3];simp only[e1,and_true,true_and]
  first|refine⟨hz,hz,by omega,by omega,⟨0,rfl,by omega,by simp⟩,?_⟩|refine⟨h,h,h,hz,hz,by omega,by omega,⟨0,rfl,by omega,by simp⟩,?_⟩|refine⟨h,h,hz,hz,by omega,by omega,⟨0,rfl,by omega,by simp⟩,?_⟩
  rintro⟨i,b⟩ ⟨m,hi,hm,hb⟩;simp only at hi hb ⊢;subst hi hb;simp only[Int.toNat_natCast];rw[<- k5];refine⟨fun hlt=>?_,fun hge=>?_⟩
  ·have g:m<a.length:=by omega
   refine⟨k4,⟨⟨rfl,k5,rfl⟩,by omega,by omega,by omega,by omega⟩,by omega,by omega,by rw[List.length_append,List.length_take,List.length_replicate,hkl];omega,by omega,⟨m+1,by omega,by omega,C2M g⟩,by omega⟩
  ·have em:m=a.length:=by omega
   rw[em,Nat.sub_self,List.take_of_length_le (by omega)];simp[hkl]
theorem D6V:TabOk Tryz.prog Gs T0:=A0q (l:=[]) A0C trivial
theorem C57:A1j Tryz.prog Gs 104 C9V:=by
 intro args r h hp;unfold C9V at h;split at h<;>cases h;refine A0e C9U hmx D6V C4M rfl (C14 _) ?_;simp
theorem D0A:TabOk Tryz.prog Gs TS1:=A0q A0C ⟨C57,trivial⟩
theorem D0B:A1j Tryz.prog Gs 85 C9W:=by
 intro args r h hp;unfold C9W at h;split at h<;>cases h;refine A0e C9U hmx D0A D4f rfl (C15 _ _) ?_;simp only[A0h,A0x,and_true];unfold cmI;refine⟨fun h=>by rw[if_pos h],fun h=>⟨fun h'=>?_,fun h'=>?_⟩⟩
 ·rw[if_neg (by omega),if_pos h']
 ·rw[if_neg (by omega),if_neg (by omega)]
theorem D0C:TabOk Tryz.prog Gs TS2:=A0q A0C ⟨D0B,trivial⟩
theorem B7q {a b:List Int}{m:Nat}(h1:m<a.length)(h2:m<b.length):A2l (a.drop m) (b.drop m)=if cmI (a[m]?.getD 0) (b[m]?.getD 0)=0 then A2l (a.drop (m+1)) (b.drop (m+1))else cmI (a[m]?.getD 0) (b[m]?.getD 0):=by
 rw[A1A h1,A1A h2];rfl
theorem D0D (a b:List Int)(ha:a.length<1000000000)(hb:b.length<1000000000):SpecP Tryz.prog Gs 62 [A3X .i64 a,A3X .i64 b] (.int .i64 (A2l a b)) []:=by
 refine A0e C9U hmx D0C D3H rfl (C16 a b) ?_;dsimp -failIfUnchanged -proj -eta -iota -zeta only[rd,rdw,qs,ql,qx];simp only[A0p,and_true,true_and,A0k,A0M,A0h,A0x,A0u,iI,A0i,List.length_drop,List.getD_eq_getElem?_getD,List.getElem?_drop,Nat.add_zero,bne_iff_ne,ne_eq,bne_eq_false_iff_eq];refine⟨⟨0,rfl,by omega,by omega,rfl⟩,?_⟩;rintro⟨i⟩ ⟨m,hi,hm,hn,he⟩;simp only at hi ⊢;subst hi;simp only[Int.toNat_natCast];refine⟨fun h1=>⟨by omega,by omega,by omega,by omega,fun h2=>?_,fun h2=>?_⟩,fun h1=>⟨fun h2=>?_,fun h2=>?_⟩⟩
 ·rw[<- he,A59 (l:=b) (by omega),A1A (l:=a) (by omega)];rfl
 ·rw[B7q (by omega) (by omega)]at he;refine⟨by omega,by omega,by omega,by omega,fun h3=>?_,fun h3=>?_⟩
  ·rw[if_neg h3]at he;exact he
  ·rw[if_pos h3]at he;exact⟨by omega,⟨m+1,by omega,by omega,by omega,he⟩,by omega⟩
 ·rw[<- he,A59 (l:=a) (by omega),A1A (l:=b) (by omega)];rfl
 ·rw[<- he,A59 (l:=a) (by omega),A59 (l:=b) (by omega)];rfl
theorem D0E (l:List Int)(q:Nat)(x:Int)(hz:l.length<1000000):SpecD Tryz.prog G (.fn 90 [] []) [.full 194 l.length,.int .i64 x] [(194,.blk (C0v l q))] (.int .i64 (A2P x l 0)) [] []:=by
 refine A2b hcm hmx A3w C9a rfl (C17 l q x) ?_;dsimp -failIfUnchanged -proj -eta -iota -zeta only[rd,rdw,qs,ql,qx];simp only[A0p,and_true,true_and,A0k,A0M,A0h,A0x,A0u,iI,A0i,List.length_drop,List.getD_eq_getElem?_getD,List.getElem?_drop,Nat.add_zero,beq_iff_eq,beq_eq_false_iff_ne,ne_eq];refine⟨⟨0,rfl,by omega,rfl⟩,?_⟩;rintro⟨i⟩ ⟨m,hi,hm,he⟩;simp only at hi ⊢;subst hi;simp only[Int.toNat_natCast];refine⟨fun h1=>⟨by omega,by omega,by omega,fun h2=>?_,fun h2=>?_⟩,fun h1=>?_⟩
 ·rw[A3g (by omega),if_pos h2]at he;exact he
 ·rw[A3g (by omega),if_neg h2]at he;exact⟨by omega,⟨m+1,by omega,by omega,he⟩,by omega⟩
 ·rw[A9O (by omega)]at he;exact he
theorem C2N (q:Nat):∀h cv args r,C90 q h cv args=some r->optP r.p->SpecD Tryz.prog G cv args h r.v r.ws []:=by
 intro h cv args r he hp;unfold C90 at he;split at he
 ·rename_i f i n x k l _ _ _ _ _ _ hh;rw[cond_eq_ite]at he;split at he
  ·rename_i hk;cases he;rw[Bool.and_eq_true]at hk;have e1:=Nat.eq_of_beq_eq_true hk.1;have e2:=Nat.eq_of_beq_eq_true hk.2;subst e1 e2;obtain⟨rfl,rfl,hz⟩:=hp;exact D0E l q x hz
  ·cases he
 ·cases he
theorem D0F (l:List Int)(q:Nat)(x:Int)(hz:l.length<1000000):SpecD Tryz.prog G (.fn 72 [] []) [.full 194 l.length,.int .i64 x] [(194,.blk (C0v l q))] (.bool (A1q l x)) [] []:=by
 refine A2b hcm hmx (A0q (l:=[]) (C2N q) trivial) C84 rfl (C18 l q x) ?_;simp[hz,A1q]
theorem C2O (q:Nat):∀h cv args r,C9Y q h cv args=some r->optP r.p->SpecD Tryz.prog G cv args h r.v r.ws []:=by
 intro h cv args r he hp;unfold C9Y at he;split at he
 ·rename_i f i n x k l _ _ _ _ _ _ hh;rw[cond_eq_ite]at he;split at he
  ·rename_i hk;cases he;rw[Bool.and_eq_true]at hk;have e1:=Nat.eq_of_beq_eq_true hk.1;have e2:=Nat.eq_of_beq_eq_true hk.2;subst e1 e2;obtain⟨rfl,rfl,hz⟩:=hp;exact D0F l q x hz
  ·cases he
 ·cases he
theorem D0G (q:Nat):TabOk Tryz.prog G (T60 q):=A0q (C2O q) ⟨C5F,D4L,trivial⟩
theorem B2E:∀(o:List Int) (rk:List Int) (i:Int),(rkA rk i o).length=rk.length
 |[],rk,i=>rfl
 |x::r,rk,i=>by unfold rkA;rw[B2E r,List.length_set]
theorem D4T (o:List Int):(rkF o).length=8:=by unfold rkF;rw[B2E];rfl
theorem D0H:∀(l:List Int),l.length=8->[gR l 0,gR l 1,gR l 2,gR l 3,gR l 4,gR l 5,gR l 6,gR l 7]=l
 |[a,b,c,d,e,f,g,h],_=>rfl
theorem A3F (o:List Int):rkL o=rkF o:=D0H _ (D4T o)
theorem B2F:∀(l o:List Int),l.Nodup->(∀x∈l,x∈o)->l.length<=o.length
 |[],o,_,_=>Nat.zero_le _
 |x::r,o,hn,hs=>by
  have hx:=hs x (List.mem_cons_self ..);obtain⟨hxr,hn⟩:=List.nodup_cons.1 hn;have:=B2F r (o.erase x) hn fun y hy=>(List.mem_erase_of_ne fun e=>hxr (by rw[<- e];exact hy)).2 (hs y (List.mem_cons_of_mem _ hy));rw[List.length_erase_of_mem hx]at this;have:0<o.length:=List.length_pos_of_mem hx;rw[List.length_cons];omega
theorem A4x {l:List Int}{x:Int}:A1q l x=false↔x∉l:=by
 rw[<- Bool.not_eq_true,A1B]
theorem C2P {out:List Int}{n:Nat}(h:out.length<n):∃i:Nat,i<n/\A1q out i=false:=by
 refine Classical.byContradiction fun hc=>?_;have:(idO n).length<=out.length:=B2F _ _ (A7i n) fun x hx=>by
  obtain⟨h0,h1⟩:=A1S.1 hx;refine Classical.byContradiction fun hx'=>hc ⟨x.toNat,by omega,A4x.2 ?_⟩
  rwa [show((x.toNat:Nat):Int)=x by omega]
 rw[A4w]at this;omega
theorem B37 (rk out:List Int):∀n:Nat,(∃i:Nat,i<n/\A1q out i=false)->∃i:Nat,i<n/\A1q out i=false/\∀k:Nat,k<n->A1q out k=false->gR rk i<=gR rk k
 |0,⟨i,h,_⟩=>by omega
 |n+1,⟨i,h,hi⟩=>by
  by_cases hx:∃i:Nat,i<n/\A1q out i=false
  ·obtain⟨j,hj,hj1,hj2⟩:=B37 rk out n hx
   by_cases hn:A1q out n=false/\gR rk n<gR rk j
   ·refine⟨n,by omega,hn.1,fun k hk hm=>?_⟩
    by_cases hk':k<n
    ·have:=hj2 k hk' hm;omega
    ·rw[show k=n by omega];omega
   ·refine⟨j,by omega,hj1,fun k hk hm=>?_⟩
    by_cases hk':k<n
    ·exact hj2 k hk' hm
    ·rw[show k=n by omega]at hm ⊢;rcases Int.lt_or_le (gR rk n) (gR rk j)with h|h
     ·exact absurd ⟨hm,h⟩ hn
     ·exact h
  ·have:i=n:=Classical.byContradiction fun hc=>hx ⟨i,by omega,hi⟩;subst this;refine⟨i,by omega,hi,fun k hk hm=>?_⟩
   by_cases hk':k<i
   ·exact absurd ⟨k,hk',hm⟩ hx
   ·rw[show k=i by omega];omega
theorem C0E {r rk out:List Int}{n:Nat}(h:out.length<n):∃i:Nat,i<n/\frK r rk out i n=true:=by
 obtain⟨i,h1,h2,h3⟩:=B37 rk out n (C2P h);refine⟨i,h1,?_⟩;unfold frK;rw[h2,Bool.not_false,Bool.true_and,List.all_eq_true];intro k hk;unfold frC;cases hm:A1q out k with
 |true=>rfl
 |false=>rw[A0k.2 (h3 k (List.mem_range.1 hk) hm)];rfl
theorem C0F {r rk out:List Int}{n m:Nat}(h1:m<n)(h2:frK r rk out m n=true)(h3:∀j:Nat,j<m->frK r rk out j n=false):fr1 r rk n out=(m:Int):=by
 unfold fr1;have:(List.range n).find? (fun(i:Nat)=>frK r rk out (i:Int) n)=some m:=by
  rw[List.find?_range_eq_some];refine⟨h2,List.mem_range.2 h1,fun j hj=>?_⟩;rw[h3 j hj];rfl
 rw[this];rfl
theorem B7r {r rk out:List Int}{n:Nat}(h:out.length<n):∃m:Nat,m<n/\fr1 r rk n out=(m:Int)/\frK r rk out m n=true:=by
 obtain⟨i,h1,h2⟩:=C0E (r:=r) (rk:=rk) h;cases hf:(List.range n).find? (fun(i:Nat)=>frK r rk out (i:Int) n)with
 |none=>exact absurd (List.find?_eq_none.1 hf i (List.mem_range.2 h1)) (by simp[h2])
 |some m=>exact⟨m,List.mem_range.1 (List.mem_of_find?_eq_some hf),by unfold fr1;rw[hf];rfl,by simpa using List.find?_some (p:=fun(i:Nat)=>frK r rk out (i:Int) n) hf⟩
theorem A2n (r rk:List Int)(n:Nat):∀m,(A3H r rk n m).length=m
 |0=>rfl
 |m+1=>by unfold A3H;rw[List.length_append,A2n r rk n m];rfl
theorem B7s (r rk:List Int)(n:Nat):∀m,m<=n->(A3H r rk n m).Nodup/\∀x∈A3H r rk n m,x∈idO n
 |0,_=>⟨List.nodup_nil,fun x hx=>by cases hx⟩
 |m+1,h=>by
  obtain⟨h1,h2⟩:=B7s r rk n m (by omega);obtain⟨i,h3,h4,h5⟩:=B7r (r:=r) (rk:=rk) (out:=A3H r rk n m) (n:=n) (by rw[A2n];omega);unfold A3H;rw[h4];have hi:(i:Int)∉A3H r rk n m:=by
   unfold frK at h5;rw[Bool.and_eq_true]at h5;exact A4x.1 (by simpa using h5.1)
  refine⟨List.nodup_append.2 ⟨h1,by simp,fun x hx y hy e=>?_⟩,fun x hx=>?_⟩
  ·rw[List.mem_singleton]at hy;subst hy;subst e;exact hi hx
  ·rcases List.mem_append.1 hx with hx|hx
   ·exact h2 x hx
   ·rw[List.mem_singleton]at hx;subst hx;exact A1S.2 (by omega)
theorem A3x (r o:List Int):(A0I r o).Perm (idO o.length):=by
 obtain⟨h1,h2⟩:=B7s r (rkF o) o.length o.length (Nat.le_refl _);exact(A6c _ _ h1 h2 (by rw[A4w,A2n])).symm
theorem A5p (r o:List Int):(A0I r o).length=o.length:=A2n ..
theorem A6d {r rk out:List Int}{i:Int}{m:Nat}:frK r rk out i (m+1)=(frK r rk out i m&&frC r rk out i m):=by
 unfold frK;rw[List.range_succ,List.all_append,Bool.and_assoc];simp
theorem D6W:A1j Tryz.prog G 60 e60:=by
 intro args r h hp;unfold e60 at h;split at h<;>cases h;rename_i a n _ k m _ r p _ o q _;obtain⟨⟨rfl,rfl,rfl⟩,rfl,ho,h1,h2⟩:=hp;have key:SpecP Tryz.prog G 60 [B5u a k r,A3X .i64 o] (A10 .i64 (A0I r o)) []:=by
  refine A0e hcm hmx (D0G o.length) C8Z rfl (C5b a k r o) ?_;dsimp -failIfUnchanged -proj -eta -iota -zeta only[rd,rdw,qs,ql,qx];have hol:=ho.1;have hc:=A2e a k r;have e8:[rkO o 0,rkO o 1,rkO o 2,rkO o 3,rkO o 4,rkO o 5,rkO o 6,rkO o 7]=rkF o:=A3F o;have hR:=D4T o;simp only[e8,A0p,and_true,true_and,A0k,A0M,A0h,A0x,A0u,A0t,iI,A0i,List.length_drop,List.length_append,List.length_cons,List.length_nil,List.getD_eq_getElem?_getD,List.getElem?_drop,Nat.add_zero,Int.toNat_natCast,beq_iff_eq,beq_eq_false_iff_ne,ne_eq,forall_const,true_imp_iff];refine⟨ho,by omega,⟨0,by omega,rfl⟩,?_⟩;rintro⟨out⟩ ⟨m,hm,rfl⟩;have hlen:=A2n r (rkF o) o.length m;simp only[hlen];refine⟨fun hlt=>⟨⟨0,rfl,by omega,fun j hj=>by omega⟩,?_⟩,fun hge=>?_⟩
  rotate_left
  ·have:m=o.length:=by omega
   subst this;exact⟨rfl,(A5p r o).symm,(A5p r o).symm⟩
  rintro⟨i⟩ ⟨p,hi,hp,hf⟩;simp only at hi ⊢;subst hi;refine⟨fun hi=>⟨by omega,⟨0,rfl,by omega,?_⟩,?_⟩,fun hi=>?_⟩
  ·unfold frK;simp
  ·rintro⟨c,f⟩ ⟨t,hc1,ht,hf2⟩;simp only at hc1 hf2 ⊢;subst hc1;simp only[Int.toNat_natCast];refine⟨fun hk=>⟨fun h=>⟨fun hb=>?_,fun hb=>⟨fun hle=>?_,fun hle=>?_⟩⟩,fun h=>?_⟩,fun hk=>⟨fun h=>?_,fun h=>?_⟩⟩
   ·simp only[h,hb,Bool.not_true,Bool.not_false,true_and];refine⟨by omega,by omega,⟨t+1,by omega,by omega,?_⟩,by omega⟩;rw[A6d,<- hf2,h];unfold frC;rw[hb];rfl
   ·have e1:leb ((rkF o)[p]?.getD 0) ((rkF o)[t]?.getD 0)=true:=A0k.2 hle;have hle':(rkF o)[p]?.getD 0<=(rkF o)[t]?.getD 0:=hle;simp only[h,hb,e1,Bool.not_true,Bool.not_false,true_and];refine⟨by omega,by omega,by omega,by omega,by omega,by omega,by omega,hle',by omega,⟨t+1,by omega,by omega,?_⟩,by omega⟩;rw[A6d,<- hf2,h];unfold frC;rw[hb,A0k.2 hle];rfl
   ·have hle':(rkF o)[t]?.getD 0<(rkF o)[p]?.getD 0:=hle;have e1:leb ((rkF o)[p]?.getD 0) ((rkF o)[t]?.getD 0)=false:=A0M.2 hle';simp only[h,hb,e1,Bool.not_true,Bool.not_false,true_and];refine⟨by omega,by omega,by omega,by omega,by omega,by omega,by omega,⟨hc,by omega,by omega,by omega,by omega,by omega⟩,by omega,⟨t+1,by omega,by omega,?_⟩,by omega⟩;rw[A6d,<- hf2,h];unfold frC;rw[hb,A0M.2 hle];rfl
   ·simp only[h,Bool.not_true,Bool.not_false,true_and];refine⟨by omega,⟨t+1,by omega,by omega,?_⟩,by omega⟩;rw[A6d,<- hf2,h];rfl
   ·have:t=o.length:=by omega
    subst this;have e1:=C0F (r:=r) (rk:=rkF o) (out:=A3H r (rkF o) o.length m) (n:=o.length) (m:=p) (by omega) (by rw[<- hf2,h]) hf;refine⟨by omega,by omega,⟨m+1,by omega,?_⟩,by omega⟩;show _=A3H r (rkF o) o.length m++[fr1 r (rkF o) o.length (A3H r (rkF o) o.length m)];rw[e1]
   ·have:t=o.length:=by omega
    subst this;refine⟨by omega,⟨p+1,by omega,by omega,fun j hj=>?_⟩,by omega⟩
    by_cases hj':j<p
    ·exact hf j hj'
    ·rw[show j=p by omega,<- hf2,h]
  ·obtain⟨j,hj,hj2⟩:=C0E (r:=r) (rk:=rkF o) (out:=A3H r (rkF o) o.length m) (n:=o.length) (by rw[hlen];omega);rw[hf j (by omega)]at hj2;cases hj2
 have key2:SpecP Tryz.prog G 60 (.agg [.imm (.ints .i64 a) a.length none,.imm (.ints .u8 k) k.length none,.imm (.ints .i64 r) r.length none]::[.imm (.ints .i64 o) o.length none]) (A10 .i64 (A0I r o)) []:=key;exact A2d (key2.args fun w F xs h=>by
  cases h with
  |cons _ _ _ _ h1 h2=>
   cases h2 with
   |cons _ _ _ _ h3 h4=>exact .cons _ _ _ _ h1 (.cons _ _ _ _ h3.caps h4))
theorem A7j {l:List Int}{x v:Int}(h0:0<=x)(h1:x<l.length):gR (l.set x.toNat v) x=v:=by
 unfold gR;rw[List.getElem?_set_self (by omega)];rfl
theorem B7t {l:List Int}{x y v:Int}(h0:0<=x)(h1:0<=y)(h:x≠y):gR (l.set x.toNat v) y=gR l y:=by
 unfold gR;rw[List.getElem?_set_ne (by omega)]
theorem A9S:∀(o rk:List Int) (i y:Int),(∀x∈o,0<=x)->0<=y->y∉o->gR (rkA rk i o) y=gR rk y
 |[],rk,i,y,_,_,_=>rfl
 |x::o,rk,i,y,h,hy,hn=>by
  unfold rkA;rw[A9S o _ _ y (fun z hz=>h z (List.mem_cons_of_mem _ hz)) hy (fun hm=>hn (List.mem_cons_of_mem _ hm)),B7t (h x (List.mem_cons_self ..)) hy fun e=>hn (by rw[e];exact List.mem_cons_self ..)]
theorem C0G:∀(o rk:List Int) (i:Int) (j:Nat),rk.length=8->o.Nodup->(∀x∈o,0<=x/\x<8)->(h:j<o.length)->gR (rkA rk i o) o[j]=i+j
 |[],rk,i,j,_,_,_,h=>by simp at h
 |x::o,rk,i,0,hr,hn,hx,h=>by
  unfold rkA;obtain⟨h1,h2⟩:=List.nodup_cons.1 hn;have hx0:=hx x (List.mem_cons_self ..);show gR _ x=_;rw[A9S o _ _ x (fun z hz=>(hx z (List.mem_cons_of_mem _ hz)).1) hx0.1 h1,A7j hx0.1 (by omega)];omega
 |x::o,rk,i,j+1,hr,hn,hx,h=>by
  unfold rkA;obtain⟨h1,h2⟩:=List.nodup_cons.1 hn;show gR _ (o[j]'(by simpa using h))=_;rw[C0G o _ _ j (by rw[List.length_set];exact hr) h2 (fun z hz=>hx z (List.mem_cons_of_mem _ hz)) (by simpa using h)];omega
theorem B1r {o:List Int}(hn:o.Nodup)(ho:okO o){j:Nat}(h:j<o.length):gR (rkF o) o[j]=j:=by
 unfold rkF;rw[C0G o _ 0 j (by simp) hn ho.2 h];omega
theorem D0I {o:List Int}(ho:okO o){y:Int}(h0:0<=y)(h1:y<8)(h:y∉o):gR (rkF o) y= -1:=by
 unfold rkF;rw[A9S o _ 0 y (fun x hx=>(ho.2 x hx).1) h0 h];unfold gR;rw[List.getElem?_replicate,if_pos (by omega)];rfl
theorem A1p {o:List Int}{n:Nat}(h:o.Perm (idO n)):o.Nodup:=h.nodup_iff.2 (A7i n)
theorem A0K {o:List Int}{n:Nat}(h:o.Perm (idO n)):o.length=n:=by rw[h.length_eq,A4w]
theorem C58 {o p:List Int}{n:Nat}(hn:n<=8)(ho:o.Perm (idO n))(hp:p.Perm (idO n))(h:rkF o=rkF p):o=p:=by
 have l1:=A0K ho;have l2:=A0K hp;have o1:=A2m ho hn;have o2:=A2m hp hn;apply List.ext_getElem (by omega);intro i h1 h2;have e:=B1r (A1p hp) o2 h2;rw[<- h]at e;have hm:p[i]∈o:=ho.mem_iff.2 (hp.mem_iff.1 (List.getElem_mem h2));obtain⟨j,hj,hj2⟩:=List.getElem_of_mem hm;have e2:=B1r (A1p ho) o1 hj;rw[hj2,e]at e2;have:i=j:=by omega
 subst this;exact hj2
theorem B38 {k k' v:List Int}{c:Nat}:∀{es:List (List Int×List Int×Nat)},A8N (mput es k v c) k'=if k'=k then some v else A8N es k'
 |[]=>by
  simp only[mput,A8N,cond_eq_ite,decide_eq_true_eq]
 |e::r=>by
  have ih:=B38 (k:=k) (k':=k') (v:=v) (c:=c) (es:=r);simp only[mput,cond_eq_ite,decide_eq_true_eq];split
  ·rename_i h1;simp only[A8N,cond_eq_ite,decide_eq_true_eq,h1];split<;>simp_all
  ·rename_i h1;simp only[A8N,cond_eq_ite,decide_eq_true_eq,ih];split
   ·rename_i h2;rw[if_neg fun h3=>h1 (h3.symm.trans h2)]
   ·rfl
theorem B1s (L:List (List Int))(l:List Int):C1W (L++[l])=(mput (fnE L) (rkL l) [1] (fnK L),mck (fnE L) (rkL l) (fnK L)):=by
 unfold C1W fnE fnK C1W;rw[List.foldl_append];rfl
theorem B39 (L:List (List Int))(l:List Int):fnE (L++[l])=mput (fnE L) (rkL l) [1] (fnK L):=by
 show(C1W (L++[l])).1=_;rw[B1s]
theorem B9z (L:List (List Int))(l:List Int):fnK (L++[l])=mck (fnE L) (rkL l) (fnK L):=by
 show(C1W (L++[l])).2=_;rw[B1s]
theorem C2Q {α:Type}{P:List α->Prop}(h0:P [])(h1:∀l x,P l->P (l++[x]))(l:List α):P l:=by
 suffices ∀n (l:List α),l.length=n->P l from this _ l rfl
 intro n
 induction n with
 |zero=>intro l h;rw[List.length_eq_zero_iff.1 h];exact h0
 |succ n ih=>
  intro l h;have hne:l≠[]:=fun e=>by rw[e]at h;simp at h
  rw[<- List.dropLast_concat_getLast hne];exact h1 _ _ (ih _ (by rw[List.length_dropLast,h];rfl))
theorem C2R {n:Nat}(hn:n<=8){l:List Int}(hl:l.Perm (idO n)):∀(L:List (List Int)),(∀x∈L,x.Perm (idO n))->(A8N (fnE L) (rkL l))=if l∈L then some [1]else none:=by
 refine C2Q (fun _=>rfl) fun L x ih h=>?_;rw[B39,B38];have hx:=h x (by simp);have ih:=ih fun y hy=>h y (List.mem_append_left _ hy)
 by_cases e:l=x
 ·subst e;rw[if_pos rfl,if_pos (by simp)]
 ·rw[if_neg fun e2=>e (C58 hn hl hx (by rw[<- A3F,<- A3F,e2])),ih];simp[e]
theorem B2G (L:List (List Int)):unO (A1w L)=L:=by
 induction L with
 |nil=>rfl
 |cons x r ih=>
  show x::unO (A1w r)=_;rw[ih]
theorem B9A (L:List (List Int)):(A1w L).length=L.length:=by unfold A1w;rw[List.length_map]
theorem B1t {o:List Int}{i:Nat}(h:okG o):okG (A2u o i (o.length:Int)):=by
 have hl:(A2u o i (o.length:Int)).length=o.length+1:=by
  unfold A2u;rw[List.length_append,List.length_cons,List.length_take,List.length_drop];omega
 unfold okG at h ⊢;rw[hl,List.range_succ,List.map_append];have p1:(A2u o i (o.length:Int)).Perm ((o.length:Int)::o):=by
  unfold A2u;refine List.perm_middle.trans ?_;rw[List.take_append_drop]
 refine p1.trans ((List.Perm.cons _ h).trans ?_);exact(List.perm_append_comm (l₁:=[(o.length:Int)])).trans (by rfl)
theorem A3i {o:List Int}{i:Nat}{x:Int}:(A2u o i x).length=o.length+1:=by
 unfold A2u;rw[List.length_append,List.length_cons,List.length_take,List.length_drop];omega
theorem A7k {n:Nat}{r k:List Int}:∀(f:Nat) (o:List Int),∀l∈A1E n r k f o,l.Perm (idO (o.length+f))
 |0,o,l,h=>by
  unfold A1E at h;cases hc:cwB n r k o with
  |true=>rw[hc]at h;cases h
  |false=>
   rw[hc]at h;rw[List.mem_singleton.1 h];exact A3x r o
 |f+1,o,l,h=>by
  unfold A1E at h;cases hc:cwB n r k o with
  |true=>rw[hc]at h;cases h
  |false=>
   rw[hc,cond_false,List.mem_flatMap]at h;obtain⟨i,_,h⟩:=h;have:=A7k f _ l h;rw[A3i]at this;rw[show o.length+(f+1)=o.length+1+f by omega];exact this
theorem B2H {n:Nat}:∀(M L:List (List Int)),(L.Nodup/\∀l∈L,l.Perm (idO n))->(∀l∈M,l.Perm (idO n))->((M.foldl B5f L).Nodup/\∀l∈M.foldl B5f L,l.Perm (idO n))
 |[],L,h,_=>h
 |x::M,L,h,hM=>by
  refine B2H M _ ?_ fun l hl=>hM l (List.mem_cons_of_mem _ hl);unfold B5f;cases hc:L.contains x with
  |true=>exact h
  |false=>
   rw[cond_false];have hx:x∉L:=fun hm=>by
    rw[List.contains_iff_mem.2 hm]at hc;cases hc
   refine⟨List.nodup_append.2 ⟨h.1,by simp,fun y hy z hz e=>?_⟩,fun l hl=>?_⟩
   ·rw[List.mem_singleton]at hz;subst hz;subst e;exact hx hy
   ·rcases List.mem_append.1 hl with hl|hl
    ·exact h.2 l hl
    ·rw[List.mem_singleton]at hl;subst hl;exact hM l (List.mem_cons_self ..)
theorem B7u {a r k o:List Int}{L:List (List Int)}(hL:okL a L)(ho:o.length<=a.length):okL a (A05 a.length r k L o):=
 B2H _ _ hL fun l hl=>by
  have:=A7k _ _ l hl
  rwa [show o.length+(a.length-o.length)=a.length by omega]at this
theorem A4Z {n:Nat}{r k o:List Int}{L:List (List Int)}(h:cwB n r k o=true):A05 n r k L o=L:=by
 unfold A05;cases hf:n-o.length<;>(unfold A1E;rw[h];rfl)
theorem B1u {n:Nat}{r k o:List Int}{L:List (List Int)}(h:cwB n r k o=false)(hn:n<=o.length):A05 n r k L o=B5f L (A0I r o):=by
 unfold A05;rw[show n-o.length=0 by omega];unfold A1E;rw[h];rfl
theorem B1v {n:Nat}{r k o:List Int}{L:List (List Int)}(h:cwB n r k o=false)(hn:o.length<n):A05 n r k L o=B9j n r k L o (o.length+1):=by
 unfold A05 B9j;rw[show n-o.length=(n-(o.length+1))+1 by omega];show(cond (cwB n r k o) [] _).foldl B5f L=_;rw[h];rfl
theorem B1w {n:Nat}{r k o:List Int}{L:List (List Int)}{m:Nat}:B9j n r k L o (m+1)=A05 n r k (B9j n r k L o m) (A2u o m (o.length:Int)):=by
 unfold A05 B9j;rw[List.range_succ,List.flatMap_append,List.foldl_append,A3i];simp
def B7v:List Int->Int
 |[]=>0
 |x::r=>x+8*B7v r
theorem B4a:∀(l p:List Int),l.length=p.length->(∀x∈l,0<=x/\x<8)->(∀x∈p,0<=x/\x<8)->B7v l=B7v p->l=p
 |[],[],_,_,_,_=>rfl
 |x::l,y::p,hl,h1,h2,h=>by
  have hx:=h1 x (List.mem_cons_self ..);have hy:=h2 y (List.mem_cons_self ..);unfold B7v at h;have e1:x=y:=by omega
  have e2:B7v l=B7v p:=by omega
  rw[e1,B4a l p (by simpa using hl) (fun z hz=>h1 z (List.mem_cons_of_mem _ hz)) (fun z hz=>h2 z (List.mem_cons_of_mem _ hz)) e2]
theorem B7w:∀(l:List Int),(∀x∈l,0<=x/\x<8)->0<=B7v l/\B7v l<8 ^ l.length
 |[],_=>by simp[B7v]
 |x::l,h=>by
  have hx:=h x (List.mem_cons_self ..);have ih:=B7w l fun z hz=>h z (List.mem_cons_of_mem _ hz);unfold B7v;rw[List.length_cons,Int.pow_succ];omega
theorem B1x {f:List Int->Int}:∀(L:List (List Int)),L.Nodup->(∀x∈L,∀y∈L,f x=f y->x=y)->(L.map f).Nodup
 |[],_,_=>List.nodup_nil
 |x::L,h,hf=>by
  obtain⟨h1,h2⟩:=List.nodup_cons.1 h;rw[List.map_cons];refine List.nodup_cons.2 ⟨fun hm=>?_,B1x L h2 fun y hy z hz=>hf y (List.mem_cons_of_mem _ hy) z (List.mem_cons_of_mem _ hz)⟩;obtain⟨y,hy,hy2⟩:=List.mem_map.1 hm;rw[hf y (List.mem_cons_of_mem _ hy) x (List.mem_cons_self ..) hy2]at hy;exact h1 hy
theorem B7x {a:List Int}{L:List (List Int)}(h:okL a L)(ha:a.length<=8):L.length<100000000:=by
 obtain⟨h1,h2⟩:=h;have p:∀l∈L,l.length=a.length/\∀x∈l,0<=x/\x<8:=fun l hl=>⟨A0K (h2 l hl),(A2m (h2 l hl) ha).2⟩;have:=B2F (L.map B7v) (idO 16777216) (B1x L h1 fun x hx y hy e=>B4a x y (by rw[(p x hx).1,(p y hy).1]) (p x hx).2 (p y hy).2 e) fun c hc=>by
  obtain⟨l,hl,rfl⟩:=List.mem_map.1 hc;have hb:=B7w l (p l hl).2;have h8:(8:Int) ^ l.length<=16777216:=(by decide:∀n,n<9->(8:Int) ^ n<=16777216) _ (by have:=(p l hl).1;omega);exact A1S.2 (by omega)
 rw[List.length_map,A4w]at this;omega
theorem B9B (x y:Int):cmI y x= -cmI x y:=by
 unfold cmI;split<;>split<;>first|omega|rfl|(split<;>first|omega|rfl)|skip
theorem C59 {x y:Int}(h:cmI x y=0):x=y:=by
 unfold cmI at h;split at h
 ·cases h
 ·split at h
  ·cases h
  ·omega
theorem C2S {x y:Int}:cmI x y<0↔x<y:=by
 unfold cmI;split
 ·simp[*]
 ·split<;>(constructor<;>intro h<;>omega)
theorem A3j:∀(x y:List Int),A2l y x= -A2l x y
 |[],[]=>rfl
 |[],_::_=>rfl
 |_::_,[]=>rfl
 |a::r,b::s=>by
  unfold A2l;rw[B9B a b,A3j r s];split<;>split<;>first|rfl|omega
theorem B7y:∀(x y:List Int),A2l x y=0->x=y
 |[],[],_=>rfl
 |[],_::_,h=>by cases h
 |_::_,[],h=>by cases h
 |a::r,b::s,h=>by
  unfold A2l at h;split at h
  ·rename_i h1;rw[C59 h1,B7y r s h]
  ·rename_i h1;exact absurd h h1
theorem A7l (x:List Int):A2l x x=0:=by
 have:=A3j x x;omega
theorem B9C (x:Int):cmI x x=0:=by unfold cmI;simp
theorem A3Y {a b:Int}{r s:List Int}:A2l (a::r) (b::s)<0↔a<b\/(a=b/\A2l r s<0):=by
 rw[A2l];split
 ·rename_i h;have:=C59 h;subst this;simp
 ·rename_i h;rw[C2S];constructor
  ·exact .inl
  ·rintro(h1|⟨h1,_⟩)
   ·exact h1
   ·subst h1;rw[B9C]at h;exact absurd rfl h
theorem A3k:∀(x y z:List Int),A2l x y<0->A2l y z<0->A2l x z<0
 |[],[],z,h,_=>by rw[A7l]at h;omega
 |[],_::_,[],_,h=>by unfold A2l at h;omega
 |[],_::_,_::_,_,_=>by unfold A2l;decide
 |_::_,[],z,h,_=>by unfold A2l at h;omega
 |_::_,_::_,[],_,h=>by unfold A2l at h;omega
 |a::r,b::s,c::t,h1,h2=>by
  rw[A3Y]at*;rcases h1 with h1|⟨h1,h3⟩
  ·rcases h2 with h2|⟨h2,h4⟩
   ·left;omega
   ·left;omega
  ·rcases h2 with h2|⟨h2,h4⟩
   ·left;omega
   ·exact .inr ⟨by omega,A3k r s t h3 h4⟩
theorem D6X:Go.Sort.SWO (Go.Proofs.ltOf A2l) where
 irrefl x:=by simp only[Go.Proofs.ltOf,decide_eq_false_iff_not,A7l];decide
 trans x y z h1 h2:=by
  simp only[Go.Proofs.ltOf,decide_eq_true_eq]at*;exact A3k x y z h1 h2
 ntrans x y z h1 h2:=by
  simp only[Go.Proofs.ltOf,decide_eq_false_iff_not]at*;intro h3;have a1:=A3j x y;have a2:=A3j y z;have a3:=A3j x z
  by_cases e1:A2l x y=0
  ·rw[B7y _ _ e1]at h3;exact h2 h3
  ·have:A2l y x<0:=by omega
   exact h2 (A3k y x z this h3)
theorem A7m (x:List Int):∀(l:List (List Int)),(C0w x l).Perm (x::l)
 |[]=>List.Perm.refl _
 |y::l=>by
  unfold C0w;cases ltb (A2l x y) 0 with
  |true=>exact List.Perm.refl _
  |false=>exact(List.Perm.cons y (A7m x l)).trans (List.Perm.swap x y l)
theorem A3l:∀(l:List (List Int)),(B8j l).Perm l
 |[]=>List.Perm.refl _
 |x::l=>(A7m x _).trans (List.Perm.cons x (A3l l))
theorem B4b {x:List Int}:∀{l:List (List Int)},l.Pairwise (fun y z=>A2l y z<0)->x∉l->(C0w x l).Pairwise (fun y z=>A2l y z<0)
 |[],_,_=>List.pairwise_singleton ..
 |y::l,h,hx=>by
  obtain⟨h1,h2⟩:=List.pairwise_cons.1 h;unfold C0w;cases hc:ltb (A2l x y) 0 with
  |true=>
   have hc:=A0h.1 hc;refine List.pairwise_cons.2 ⟨fun z hz=>?_,h⟩;rcases List.mem_cons.1 hz with rfl|hz
   ·exact hc
   ·exact A3k _ _ _ hc (h1 z hz)
  |false=>
   have hc:=A0x.1 hc;rw[cond_false];refine List.pairwise_cons.2 ⟨fun z hz=>?_,B4b h2 fun hm=>hx (List.mem_cons_of_mem _ hm)⟩;rcases List.mem_cons.1 ((A7m x l).mem_iff.1 hz)with rfl|hz
   ·have:=A3j z y;have:A2l z y≠0:=fun e=>hx (by rw[B7y _ _ e];exact List.mem_cons_self ..);omega
   ·exact h1 z hz
theorem A9T:∀{l:List (List Int)},l.Nodup->(B8j l).Pairwise (fun y z=>A2l y z<0)
 |[],_=>List.Pairwise.nil
 |x::l,h=>by
  obtain⟨h1,h2⟩:=List.nodup_cons.1 h;exact B4b (A9T h2) fun hm=>h1 ((A3l l).mem_iff.1 hm)
end Go.Proofs.YthiammkiobbclaaGreatDoor.X
