/-
 Cones, plain: the ways of a fan are those of its angles whose kinds fit; a fan has one exactly if it folds.
-/
import Derived.Test.YthiammkiobbclaaGreatDoorP7Z
import Derived.Test.YthiammkiobbclaaGreatDoorP14Z
import Derived.Test.YthiammkiobbclaaGreatDoorC12Z
set_option maxRecDepth 1000000
set_option linter.unusedVariables false
namespace Go.Proofs.YthiammkiobbclaaGreatDoor.X
open Go Go.Ab
theorem C6I:∀p∈ksT,ksW p.1=p.2:=by
 unfold ksT;simp only[List.forall_mem_cons];exact⟨C6y,C6z,C6A,C6B,C6C,C6D,C6E,C6F,C6G,C6H,C3h,C3i,C3j,C3k,C3l,C3m,C3n,C3o,C3p,C3q,C3r,C3s,C3t,C3u,C3v,C3w,C3x,C3y,C3z,fun p h=>by cases h⟩
def A5S (a:List Int):List (List Int):=bif a==ones then ksO else((ksT.find? fun p=>p.1==a).map (·.2)).getD []
def inT (a:List Int):Bool:=ksT.any fun p=>p.1==a
def D5m (a k:List Int):Bool:= !A8p a||(a==ones||inT a)
theorem D7A:B9f D5m 9 [] [] 8=true:=by decide +kernel
theorem B4k:∀(a:List Int) (s:Int),(∀x∈a,1<=x)->a.sum<=s->okF a (List.replicate a.length 1) s=true
 |[],s,_,_=>rfl
 |x::a,s,h1,h2=>by
  have hx:=h1 x (List.mem_cons_self ..);have hr:0<=a.sum:=A1o fun y hy=>by have:=h1 y (List.mem_cons_of_mem _ hy);omega
  rw[List.sum_cons]at h2;rw[List.length_cons,List.replicate_succ];simp only[okF,Bool.and_eq_true,decide_eq_true_eq,Bool.or_eq_true,beq_iff_eq];exact⟨hx,by omega,.inl trivial,B4k a _ (fun y hy=>h1 y (List.mem_cons_of_mem _ hy)) (by omega)⟩
theorem C6J {a:List Int}(h:okA a):okF a (List.replicate a.length 1) 8=true:=B4k a 8 h.1 h.2
theorem B4l {a k:List Int}(h:A0l a k=true):a=ones\/(a≠ones/\inT a=true):=by
 have hA:=(A1C h).2.2.1;have hl:=A2k hA;have:=A5l a _ 9 8 [] [] (by omega) D7A (C6J hA);simp only[List.nil_append,D5m,(A1d.1 h).2,Bool.not_true,Bool.false_or,Bool.or_eq_true,beq_iff_eq]at this
 by_cases e:a=ones
 ·exact .inl e
 ·exact .inr ⟨e,this.resolve_left e⟩
theorem B4m {a:List Int}(h:inT a=true)(hne:a≠ones):∃p∈ksT,p.1=a/\A5S a=p.2:=by
 unfold inT at h;cases hf:ksT.find? fun p=>p.1==a with
 |none=>
  obtain⟨p,hp,hp2⟩:=List.any_eq_true.1 h;exact absurd hp2 (by simpa using List.find?_eq_none.1 hf p hp)
 |some p=>
  refine⟨p,List.mem_of_find?_eq_some hf,?_,by unfold A5S;rw[beq_false_of_ne hne,hf];rfl⟩;have:=List.find?_some hf;exact beq_iff_eq.1 this
theorem C6K {a k:List Int}(h:A0l a k=true)(hne:a≠ones):ksW a=A5S a:=by
 obtain⟨p,hp,rfl,e⟩:=B4m ((B4l h).resolve_left hne).2 hne;rw[e,C6I p hp]
theorem B2N {n:Nat}{rk:List Int}:A7h (List.replicate n 3) rk=false:=by
 unfold A7h;refine A2f.2 fun i hi=>?_;rw[List.length_replicate]at hi;have:gR (List.replicate n 3) (i:Int)=3:=by
  unfold gR;rw[Int.toNat_natCast,List.getElem?_replicate,if_pos hi];rfl
 unfold B1O;rw[this];rfl
theorem C6L {n:Nat}{r k x:List Int}:x∈A2s n r k↔x∈A1E n r k n []:=by
 unfold A2s A05;rw[(A3l _).mem_iff,A9Y];simp
theorem B9R (x:List Int):x∈ksW ones↔x∈ksO:=by
 unfold ksW;rw[List.mem_map];constructor
 ·rintro⟨l,hl,rfl⟩;exact C6j l (C6L.1 hl)
 ·intro hx;rw[<- C6i,List.mem_map]at hx;obtain⟨w,hw,rfl⟩:=hx;have h:=List.all_eq_true.1 C6h w hw;simp only[Bool.and_eq_true,Bool.not_eq_true',beq_iff_eq]at h;have hp:=List.isPerm_iff.1 h.1;have hs:A0l ones k8=true:=by decide +kernel
  have A:=A7n hs;refine⟨w,(A41 A (by decide) (by rfl)).2 ⟨hp,?_,h.2.2⟩,rfl⟩;unfold cwB;rw[show A4y ones.length (A0b ones) (rkL w)=A4y 8 r8 (rkL w)from rfl,h.2.1,B2N];rfl
theorem B7N {a k:List Int}(h:A0l a k=true)(x:List Int):x∈ksW a↔x∈A5S a:=by
 by_cases hne:a=ones
 ·subst hne;exact B9R x
 ·rw[C6K h hne]
def C8D (h:List Int):Int:=(h.map fun x=>3-2*x).sum
def C8E (a h:List Int):Bool:=(a.length==0||(C8D h==2||C8D h== -2))&&(h.length==a.length&&h.all fun x=>x==1||x==2)
theorem C3A:ksT.all (fun p=>p.2.all (C8E p.1))=true:=by decide +kernel
theorem C3B:ksO.all (C8E ones)=true:=by decide +kernel
theorem A8x {a k:List Int}(h:A0l a k=true):∀x∈A5S a,(a.length=0\/C8D x=2\/C8D x= -2)/\x.length=a.length/\∀y∈x,y=1\/y=2:=by
 intro x hx;have:C8E a x=true:=by
  by_cases hne:a=ones
  ·subst hne;exact List.all_eq_true.1 C3B x hx
  ·obtain⟨p,hp,rfl,e⟩:=B4m ((B4l h).resolve_left hne).2 hne;rw[e]at hx;exact List.all_eq_true.1 (List.all_eq_true.1 C3A p hp) x hx
 unfold C8E at this;simp only[Bool.and_eq_true,Bool.or_eq_true,beq_iff_eq,List.all_eq_true]at this;exact⟨this.1,this.2.1,this.2.2⟩
def B5l (k h:List Int):Bool:=A5P k.length (fun i=>(gR k i !=3)&&(gR k i !=gR h i))==false
theorem C3C {a o:List Int}{i:Nat}(h:i<a.length):gR (kdL a o) i=kdI a.length (rkL o) i:=by
 unfold gR kdL;rw[Int.toNat_natCast,List.getElem?_map,List.getElem?_range h];rfl
theorem B2O {a k o:List Int}(A:Alt a.length (A0b a))(hn:a.length<=8)(hk:k.length=a.length)(ho:o.Perm (idO a.length)):A7h k (rkL o)= !B5l k (kdL a o):=by
 unfold A7h B5l;have:A5P k.length (fun i=>B1O k (rkL o) i)=A5P k.length (fun i=>(gR k i !=3)&&(gR k i !=gR (kdL a o) i)):=by
  rw[Bool.eq_iff_iff,A1P,A1P];have one:∀i:Nat,i<k.length->B1O k (rkL o) i=((gR k i !=3)&&(gR k i !=gR (kdL a o) i)):=fun i hi=>by
   have h0:(0:Int)<=i:=by omega
   have h1:(i:Int)<a.length:=by omega
   obtain⟨b1,b2,_⟩:=A.bf h0 h1;unfold B1O;rw[C3C (by omega),hk,A0k.2 (C4a.2 ⟨B5k hn ho b1 b2,B5k hn ho h0 h1⟩),Bool.true_and]
  constructor
  ·rintro⟨i,hi,h⟩;exact⟨i,hi,by rw[<- one i hi];exact h⟩
  ·rintro⟨i,hi,h⟩;exact⟨i,hi,by rw[one i hi];exact h⟩
 rw[this];cases A5P k.length (fun i=>(gR k i !=3)&&(gR k i !=gR (kdL a o) i))<;>rfl
theorem B1J {a k:List Int}(h:A0l a k=true):A2s a.length (A0b a) k=(A2s a.length (A0b a) (List.replicate a.length 3)).filter fun w=>B5l k (kdL a w):=by
 obtain⟨h1,h2,h3,h4⟩:=A1C h;have A:=A7n h;refine A5r A9Z (A9Z.filter _) fun l=>?_;rw[List.mem_filter,A41 A h2 h1.symm,A41 A h2 (List.length_replicate ..)];have e1:∀k':List Int,cwB a.length (A0b a) k' l=false↔A4y a.length (A0b a) (rkL l)=false/\A7h k' (rkL l)=false:=fun k'=>by
  unfold cwB;rw[Bool.or_eq_false_iff]
 rw[e1,e1];constructor
 ·rintro⟨p,⟨c1,c2⟩,c3⟩;rw[B2O A h2 h1.symm p]at c2;exact⟨⟨p,⟨c1,B2N⟩,c3⟩,by simpa using c2⟩
 ·rintro⟨⟨p,⟨c1,_⟩,c3⟩,c4⟩;refine⟨p,⟨c1,?_⟩,c3⟩;rw[B2O A h2 h1.symm p,c4];rfl
theorem B1K {a k:List Int}(h:A0l a k=true)(hne:a≠ones):(cwL a k).length=((A5S a).filter (B5l k)).length:=by
 unfold cwL;rw[h,cond_true,B1J h,<- C6K h hne];unfold ksW;rw[List.filter_map,List.length_map];rfl
theorem C0Q {a k:List Int}(h:A0l a k=true):cwL a k≠[]↔∃x∈A5S a,B5l k x=true:=by
 unfold cwL;rw[h,cond_true,B1J h];rw[show ∀l:List (List Int),l≠[]↔∃w,w∈l from fun l=>⟨fun hn=>List.exists_mem_of_ne_nil _ hn,fun⟨w,hw⟩ e=>by rw[e]at hw;cases hw⟩];constructor
 ·rintro⟨w,hw⟩;obtain⟨h1,h2⟩:=List.mem_filter.1 hw;exact⟨kdL a w,(B7N h _).1 (List.mem_map_of_mem h1),h2⟩
 ·rintro⟨x,hx,hf⟩;obtain⟨w,hw,rfl⟩:=List.mem_map.1 ((B7N h x).2 hx);exact⟨w,List.mem_filter.2 ⟨hw,hf⟩⟩
theorem C3D {a k:List Int}(h:A0l a k=false):cwL a k=[]:=by unfold cwL;rw[h];rfl
theorem D1L {a k o:List Int}(h:A0l a k=true)(ho:o.Perm (idO a.length))(hc:A4y a.length (A0b a) (rkL o)=false):kdL a o∈A5S a:=by
 obtain⟨h1,h2,h3,h4⟩:=A1C h;have A:=A7n h;have hp:=A7s (r:=A0b a) ho;refine(B7N h _).1 ?_;unfold ksW;have e:kdL a o=kdL a (A0I (A0b a) o):=by
  unfold kdL;refine List.map_congr_left fun i hi=>?_;have hi:=List.mem_range.1 hi;have h0:(0:Int)<=i:=by omega
  have h5:(i:Int)<a.length:=by omega
  obtain⟨b1,b2,_⟩:=A.bf h0 h5;exact((A7t h2 ho).kd A h0 h5 (B5k h2 hp b1 b2) (B5k h2 hp h0 h5)).symm
 rw[e];refine List.mem_map_of_mem ((A41 A h2 (List.length_replicate ..)).2 ⟨hp,?_,A8w h2 ho⟩);refine(A7t h2 ho).cw A (List.length_replicate ..) ?_;unfold cwB;rw[hc,B2N];rfl
def A0n (a k:List Int):Bool:=look a k==(A8p a&&(A5S a).contains k)
theorem D7B:B9f A0n 9 [] [] 8=true:=by decide +kernel
theorem C3E {a k:List Int}(h:okF a k 8=true):A2A a k=(A8p a&&(A5S a).contains k):=by
 have:=(A4t h).2 (by omega);have:=A5l a k 9 8 [] [] (by omega) D7B h;simp only[List.nil_append,A0n,beq_iff_eq]at this;rw[B64 h,this]
set_option linter.unusedSimpArgs false
theorem A8y:∀(a k k':List Int) (s:Int),a.length=k.length->k'.length=k.length->(∀x∈k',1<=x/\x<=3)->A4s a k s=0->A4s a k' s=0
 |[],k,k',s,_,_,_,_=>by cases k'<;>rfl
 |x::a,[],k',s,h,_,_,_=>by simp at h
 |x::a,y::k,[],s,_,h,_,_=>by simp at h
 |x::a,y::k,z::k',s,h1,h2,h3,h=>by
  have hz:=h3 z (List.mem_cons_self ..);simp only[A4s]at h ⊢;split at h
  ·cases h
  ·rename_i hn;rw[if_neg (by omega)];exact A8y a k k' _ (by simpa using h1) (by simpa using h2) (fun w hw=>h3 w (List.mem_cons_of_mem _ hw)) h
theorem B7O {a k k':List Int}(h:chk a k=0)(hk:a.length=k.length)(h2:k'.length=a.length)(h3:∀x∈k',1<=x/\x<=3):chk a k'=0:=by
 unfold chk at h ⊢;rw[if_pos hk]at h;rw[if_pos h2.symm];exact A8y a k k' 0 hk (by omega) h3 h
theorem C3F (n:Int)(rk:List Int)(i:Int):kdI n rk i=1\/kdI n rk i=2:=by
 unfold kdI;split<;>split<;>simp
theorem B7P {a o:List Int}:∀x∈kdL a o,x=1\/x=2:=fun x hx=>by
 unfold kdL at hx;obtain⟨i,_,rfl⟩:=List.mem_map.1 hx;exact C3F _ _ _
theorem C6M {a k o:List Int}(h:A0l a k=true)(ho:o.Perm (idO a.length))(hc:A3d a k o≠12):
  A4y a.length (A0b a) (rkL o)=false/\B1j a k o=0/\A1e a k o=true/\A3n a (kdL a o) o=0:=by
 obtain⟨h1,h2,h3,h4⟩:=A1C h;have A:=A7n h;have hv:=A9U h ho;have hcr:A4y a.length (A0b a) (rkL o)=false:=by
  rw[A7p A h2 ho];cases hb:A5P a.length (B1P a.length (A0b a) o)with
  |false=>rfl
  |true=>unfold A3d at hc;rw[hb]at hc;simp at hc
 have hval:A3d a k o=0\/A3d a k o=13:=by
  unfold A3d at hc ⊢;rw[<- A7p A h2 ho,hcr];split
  ·rename_i h;cases h
  ·split<;>simp
 have hkl:=A9R a o;have hk3:∀x∈kdL a o,1<=x/\x<=3:=fun x hx=>by rcases B7P x hx with h|h<;>omega
 have hs':A0l a (kdL a o)=true:=A1d.2 ⟨B7O (A1d.1 h).1 h1 hkl hk3,(A1d.1 h).2⟩;refine⟨hcr,?_,?_,?_⟩
 ·unfold B1j;rw[hv];rcases hval with e|e<;>rw[e]<;>rfl
 ·unfold A1e;rw[hv];rcases hval with e|e<;>rw[e]<;>rfl
 ·rw[A9U hs' ho];unfold A3d;rw[<- A7p A h2 ho,hcr,<- B7G A h2 hkl hk3 ho,B2O A h2 hkl ho];have:B5l (kdL a o) (kdL a o)=true:=by
   unfold B5l;rw[A2f.2 fun i hi=>?_]
   ·rfl
   ·simp
  rw[this];rfl
theorem B9S {h:List Int}{m:Nat}(hm:m<h.length):dsm (h.take (m+1))=dsm (h.take m)+(3-2*gR h m):=by
 have e:gR h (m:Int)=h[m]:=by
  unfold gR;rw[Int.toNat_natCast,List.getElem?_eq_getElem hm];rfl
 unfold dsm;rw[e,List.take_add_one,List.getElem?_eq_getElem hm,List.map_append,List.sum_append];simp
theorem C0R:∀(h:List Int),(∀x∈h,x=1\/x=2)-> -(h.length:Int)<=dsm h/\dsm h<=h.length
 |[],_=>by simp[dsm]
 |x::h,hx=>by
  have h1:=hx x (List.mem_cons_self ..);have h2:=C0R h fun y hy=>hx y (List.mem_cons_of_mem _ hy);unfold dsm at h2 ⊢;rw[List.map_cons,List.sum_cons,List.length_cons];omega
theorem D7C:TabOk Tryz.prog G T7:=A0q A0C ⟨C2l,C6p,C2J,C25,D0z,C8y,C2K,B2M,trivial⟩
theorem sp7 (c l:Int)(ks ys:List Int)(hk:okK ks)(hy:∀y∈ys,0<=y/\y<256):SpecP Tryz.prog G 7 [fV c l ks,.imm (.ints .u8 ys) ys.length none] (.bool true) []:=by
 refine A0e hcm hmx D7C ok7 rfl (D1K c l ks ys) ?_;dsimp -failIfUnchanged -proj -eta -iota -zeta only[rd,rdw,qs,ql,qx];obtain⟨h1,h2,h3,h4⟩:=B2v (c:=c) (l:=l) hk;have hc:=A8s (c:=c) (l:=l) hk;generalize ofA c l ks=a at*;generalize ofK c ks=k at*;have hp:=B7M hy a.length;rw[h1]at hp;have hpl:=A0K hp;have e1:∀l,bLs true l=l:=fun l=>rfl;have e2:∀l,bLs false l=[]:=fun l=>rfl;have hkl:=A9R a (oxL ys k.length);have hk2:=B7P (a:=a) (o:=oxL ys k.length);rw[show Int.toNat (k.length:Int)=k.length from Int.toNat_natCast _];obtain⟨o,ho⟩:∃o,oxL ys k.length=o:=⟨_,rfl⟩;rw[ho]at hp hpl hkl hk2 ⊢;simp only[and_true,true_and];refine⟨hk,⟨hy,by omega,by omega⟩,fun hs=>⟨fun h12=>?_,fun h12=>?_⟩,fun hs=>?_⟩
 ·have h12:=beq_iff_eq.1 h12;have hv:A3n a k o=12:=by rw[A9U hs (by rw[h1];exact hp),h12]
  have hd:B1j a k o=12:=by unfold B1j;rw[hv];rfl
  have hb:A1e a k o=false:=by unfold A1e;rw[hv];rfl
  simp only[hs,h12,hd,hb,e2];simp;exact⟨by omega,⟨h3,h1,by rw[h1];exact hp⟩,by omega,by omega⟩
 ·have h12:=beq_eq_false_iff_ne.1 h12;obtain⟨d1,d2,d3,d4⟩:=C6M hs (by rw[h1];exact hp) h12;have hin:=D1L hs (by rw[h1];exact hp) d1;obtain⟨s1,s2,s3⟩:=A8x hs _ hin;generalize hkd:kdL a o=h at*;simp only[hs,d2,d3,e1,d4,gR0,A0p,and_true,true_and,A0k,A0M,A0h,A0x,A0u,A0t,A0i,List.length_drop,bne,Bool.not_not,beq_iff_eq,beq_eq_false_iff_ne,ne_eq,Bool.not_eq_true',Bool.not_eq_false',Bool.not_true,forall_const,true_imp_iff,Bool.false_eq_true,Bool.true_eq_false,false_imp_iff,decide_true,beq_self_eq_true];have hg:∀m:Nat,m<h.length->gR h (m:Int)=1\/gR h (m:Int)=2:=fun m hm=>by
   have e:gR h (m:Int)=h[m]:=by
    unfold gR;rw[Int.toNat_natCast,List.getElem?_eq_getElem hm];rfl
   rw[e];exact hk2 _ (List.getElem_mem hm)
  refine⟨by omega,⟨h3,h1,by rw[h1];exact hp⟩,h12,⟨by omega,by omega⟩,by omega,by omega,by omega,⟨by omega,by omega⟩,⟨0,rfl,by omega,rfl⟩,?_⟩;rintro⟨i,d⟩ ⟨m,hi,hm,hd⟩;simp only at hi hd ⊢;subst hi hd;simp only[Int.toNat_natCast];refine⟨fun hlt=>?_,fun hge=>⟨fun _=>trivial,fun h0=>⟨fun _=>trivial,fun h2=>⟨fun _=>trivial,fun h2'=>?_⟩⟩⟩⟩
  ·have hmh:m<h.length:=by omega
   have hgm:=hg m hmh;have hst:=B9S hmh;have hb:=C0R (h.take m) fun x hx=>hk2 x (List.mem_of_mem_take hx);rw[List.length_take]at hb;exact⟨by omega,by omega,by omega,by omega,fun h1'=>⟨by omega,by omega,by omega,by omega,fun h2'=>by omega,fun h2'=>⟨by omega,by omega,by omega,by omega,by omega,by omega,by omega,by omega,by omega,⟨m+1,by omega,by omega,by omega⟩,by omega⟩⟩,fun h1'=>⟨by omega,by omega,by omega,by omega,by omega,by omega,by omega,by omega,by omega,⟨m+1,by omega,by omega,by omega⟩,by omega⟩⟩
  ·rw[List.take_of_length_le (by omega)]at h2 h2';rcases s1 with h|h|h
   ·omega
   ·exact h2 h
   ·exact h2' h
 ·have e3:=C0M hc hs;have e4:A4v a k o=14:=by rw[C0N (by omega),e3]
  have hv:A3n a k o=14:=by rw[C0O (by omega),e4]
  have hd:B1j a k o=14:=by unfold B1j;rw[hv];rfl
  have hb:A1e a k o=false:=by unfold A1e;rw[hv];rfl
  simp only[hs,hd,hb,e2];simp;omega
end Go.Proofs.YthiammkiobbclaaGreatDoor.X
