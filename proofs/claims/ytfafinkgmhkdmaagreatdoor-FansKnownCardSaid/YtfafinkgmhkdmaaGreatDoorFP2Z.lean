/-
 The plain law of patterns of fans: the pattern of a flat fan; the rays at its points; its contract.
-/
import Derived.Test.YtfafinkgmhkdmaaGreatDoorFC3Z
set_option maxRecDepth 1000000
set_option linter.unusedVariables false
set_option linter.unusedSimpArgs false
namespace Go.Proofs.YtfafinkgmhkdmaaGreatDoor.X
open Go Go.Ab
theorem B6i:∀{a k:List Int} {s:Int},a.length=k.length->(∀x∈a,1<=x)->s+a.sum<=8->(∀x∈k,1<=x/\x<=3)->A60 a k s=0
 |[],k,s,_,_,_,_=>by simp[A60]
 |n::a,[],s,hl,_,_,_=>by simp at hl
 |n::a,x::k,s,hl,ha,hs,hk=>by
  have h1:=ha n (by simp);have h2:=A2O (l:=a) fun x hx=>ha x (by simp[hx]);have h3:=hk x (by simp);rw[List.sum_cons]at hs;simp only[A60];rw[if_neg (by omega)];exact B6i (by simpa using hl) (fun x hx=>ha x (by simp[hx])) (by omega) (fun x hx=>hk x (by simp[hx]))
theorem A1j {α:Type}{lt:α->α->Prop}:∀{l2 l1:List α},l1.Perm l2->l1.Pairwise (fun x y=>¬ lt y x)->l2.Pairwise lt->l1=l2
 |[],l1,hp,_,_=>List.perm_nil.1 hp
 |x::t,l1,hp,h1,h2=>by
  cases l1 with
  |nil=>exact absurd hp.symm (by simp)
  |cons y s=>
   have hyx:y=x:=by
    have hy:y∈x::t:=hp.subset (by simp);rcases List.mem_cons.1 hy with e|hy
    ·exact e
    ·have hx:x∈y::s:=hp.symm.subset (by simp);rcases List.mem_cons.1 hx with e|hx
     ·exact e.symm
     ·exact absurd ((List.pairwise_cons.1 h2).1 y hy) ((List.pairwise_cons.1 h1).1 x hx)
   subst hyx;rw[A1j ((List.perm_cons y).1 hp) (List.pairwise_cons.1 h1).2 (List.pairwise_cons.1 h2).2]
structure FF (a:List Int)(m:Nat)(d:Int)(kd:List Int)(R:List Ry)(cr:List P.Cr):Prop where
 pm:(rawF a (kI m) d).Perm cr
 rl:R.length=m
 al:a.length=m
 un:unN kd 8=cr.length
 no:m=0->angR R R.length=[]/\kndR R=[]
 yes:0<m->tOk a (mnN a d m)=true/\angR R m=rotL' a (mnN a d m).toNat/\kndR R=rotL' (kI m) (mnN a d m).toNat/\dR R 0=lsN a d m
 ws:wsum a=8\/m=0
theorem C1i {c:Nat}{d:Nat}(hc:c<256)(hd:d<8):FF (aC c) (nC c) d (kdN (aC c) (kI (nC c)) d (nC c)) (RI (kdN (aC c) (kI (nC c)) d (nC c))) (P.wthL uLz (A2A (kdN (aC c) (kI (nC c)) d (nC c)))):=by
 have h1:=List.all_eq_true.1 C37 c (List.mem_range.2 hc);simp only[D2u,Bool.and_eq_true,Bool.or_eq_true,beq_iff_eq]at h1;obtain⟨⟨hw,hl⟩,h2⟩:=h1;have h3:=List.all_eq_true.1 h2 d (List.mem_range.2 hd);simp only[D2t,D2s,Bool.and_eq_true,Bool.or_eq_true,beq_iff_eq,decide_eq_true_eq,List.isPerm_iff]at h3;obtain⟨p1,p2,p3,p4,p5⟩:=h3;refine⟨p1,p2,p3,p4,fun h=>?_,fun h=>?_,hw⟩
 ·rcases p5 with⟨_,q⟩|⟨⟨q,_⟩,_⟩
  ·exact q
  ·omega
 ·rcases p5 with⟨q,_⟩|⟨⟨_,q1,q2,q3⟩,q4⟩
  ·omega
  ·exact⟨q1,q2,q3,q4⟩
theorem B8h (kd:List Int):(A2A kd).length=20:=by unfold A2A;rw[List.length_map];rfl
theorem A4J {ks:List Int}(h:okK ks)(kd:List Int):P.kds 2 2 (A2A (kd.map (gK ks))):=by
 refine⟨by rw[B8h,A0T];rfl,fun k hk=>?_⟩;rw[A8Z (gK0 ks)]at hk;obtain⟨j,_,rfl⟩:=List.mem_map.1 hk;have:=C0A h j;exact⟨this.1,this.2.1⟩
theorem C5a {ks:List Int}(h:okK ks)(kd:List Int):okZ (P.wthL (P.units 2 2) (A2A (kd.map (gK ks)))):=⟨_,A4J h kd,rfl⟩
theorem C9A {l:List P.Cr}(h:okZ l):l.Pairwise (fun x y=>A3S x y<0):=by
 have h1:=P.vP_pw h;refine h1.imp_of_mem fun{x y} hx hy hlt=>?_;have m1:=P.vP_mem h hx;have m2:=P.vP_mem h hy;rw[A5s];omega
theorem C1j {c d:Nat}{ks:List Int}(hc:c<256)(hd:d<8):crF (ofA c 0 ks) (ofK c ks) d=P.wthL (P.units 2 2) (A2A ((kdN (aC c) (kI (nC c)) d (nC c)).map (gK ks))):=by
 have h:=C1i hc hd;unfold crF;rw[B7P,C0z,h.al,B1B (gK0 ks)]
theorem B6j {a k:List Int}{d:Int}(h:flF a k d):okZ (crF a k d):=by
 obtain⟨c,ks,hc,hk,rfl,rfl,n,rfl,hn⟩:=h;rw[C1j hc hn];exact C5a hk _
theorem B1H {a k:List Int}{d:Int}(h:flF a k d):chk a k=0:=by
 obtain⟨c,ks,hc,hk,rfl,rfl,n,rfl,hn⟩:=h;have h1:=A5q (c:=c) hk 8;obtain⟨q1,q2,q3,q4⟩:=A6D h1 (Nat.le_refl 8);have e:ofA c 0 ks=A0U (A0P c ks 8):=by unfold ofA;rw[C0y]
 rw[e,show ofK c ks=(A0P c ks 8).k from rfl];unfold chk;rw[if_pos q3];exact B6i q3 q1 (by omega) h1.kd
theorem C1k {a k:List Int}{d:Int}(h:flF a k d):A2Q a k d=0/\A3V a k d=crF a k d:=by
 have hc0:=B1H h;have hz:=B6j h;obtain⟨c,ks,hc,hk,ha,hkk,n,rfl,hn⟩:=h;have hf:=C1i hc hn;have hE:A2Q a k n=0:=by
  unfold A2Q flB;rw[hc0,if_pos rfl,if_pos,if_neg (by omega)];rw[ha,B7P];rcases hf.ws with h|h
  ·rw[h];rfl
  ·have:=hf.al;rw[h]at this;rw[this];simp
 refine⟨hE,?_⟩;unfold A3V;rw[if_pos hE];obtain⟨s1,s2⟩:=A2N C1a (rawF a k n);refine A1j (lt:=fun x y=>A3S x y<0) (s1.trans ?_) s2 (C9A hz);rw[ha,hkk,C1j hc hn,B7P,C0z,B2W,A8Z (gK0 ks),A0T,A5r (fun j=>(C0A hk j).2.2)];exact hf.pm.map _
theorem D4K:A06 Tryz.prog G 6 e6z:=by
 intro args r hr hp;unfold e6z at hr;split at hr<;>cases hr;rename_i a n c k m c' d;obtain⟨rfl,rfl,h⟩:=hp;have hl:a.length<1000000000:=by
  have h1:=A2y (B1H h);have:=A2q a h1.2.1.1;have:=h1.2.1.2;omega
 obtain⟨h1,h2⟩:=C1k h;have:=D4G a k d hl;rw[h1,h2]at this;exact this.caps
theorem A10 (f:Int×Int×Int->Int):∀(s:List (Int×Int×Int)) (L:List Ry),s.foldl (fun L s=>A0h L s.1 (f s)) L=L++(s.map fun s=>(s.1,f s)).filter nzB
 |[],L=>by simp
 |x::s,L=>by
  rw[List.foldl_cons,A10 f s,List.map_cons,List.filter_cons];unfold A0h nzB;cases(f x==0)<;>simp
theorem A2e {kd:List Int}(hk:P.kds 2 2 (A2A kd))(c e:Int)(j:Nat)(he:0<=e)(hn:P.neE 2 2 c e=0)(hj:(P.units 2 2)[j]? =some (P.cod 2 2 c e)):knZ (P.wthL (P.units 2 2) (A2A kd)) c e=(A2A kd)[j]?.getD 0:=
 P.kn_eq s22 hk he hn hj
theorem C5b {kd:List Int}(hk:P.kds 2 2 (A2A kd)):A0Z (P.wthL (P.units 2 2) (A2A kd)) 2 2=(([1,2,3,4,5,6,7,0]:List Nat).map fun(r:Nat)=>((r:Int),kd[r]?.getD 0)).filter nzB:=by
 unfold A0Z;rw[A10 (fun s=>knZ (P.wthL (P.units 2 2) (A2A kd)) s.2.1 s.2.2),show B5X 2 2=[(1,12,2),(2,9,0),(3,8,1),(4,2,0),(5,1,2),(6,1,0),(7,6,1),(0,6,0)]by decide];simp only[List.map_cons,List.map_nil,List.nil_append,A2e hk 12 2 17 (by decide) (by decide) (by rw[A0T];decide),A2e hk 9 0 13 (by decide) (by decide) (by rw[A0T];decide),A2e hk 8 1 11 (by decide) (by decide) (by rw[A0T];decide),A2e hk 2 0 4 (by decide) (by decide) (by rw[A0T];decide),A2e hk 1 2 3 (by decide) (by decide) (by rw[A0T];decide),A2e hk 1 0 2 (by decide) (by decide) (by rw[A0T];decide),A2e hk 6 1 10 (by decide) (by decide) (by rw[A0T];decide),A2e hk 6 0 9 (by decide) (by decide) (by rw[A0T];decide)];rfl
theorem C9B (kd:List Int):(RI kd).Pairwise (fun x y=>x.1<y.1):=by
 unfold RI;refine List.Pairwise.filter _ ?_;rw[List.pairwise_map];exact List.pairwise_lt_range.imp fun{x y} h=>by
  show(x:Int)<y;omega
theorem C5c {kd:List Int}(hk:P.kds 2 2 (A2A kd)):raysL (P.wthL (P.units 2 2) (A2A kd)) 2 2=RI kd:=by
 unfold raysL;obtain⟨s1,s2⟩:=A4I (A16 (P.wthL (P.units 2 2) (A2A kd)) 2 2);refine A1j (lt:=fun x y=>x.1<y.1) (s1.trans ?_) s2 (C9B kd);rw[C5b hk];unfold RI;exact((by decide:([1,2,3,4,5,6,7,0]:List Nat).Perm (List.range 8)).map _).filter _
def midL (q d:Int):List Ry:=if q=0 then[]else[(d,q),(d+4,q)]
theorem C5d {kd:List Int}(hk:P.kds 2 2 (A2A kd))(h8:kd[8]?.getD 0=0):raysL (P.wthL (P.units 2 2) (A2A kd)) 1 1=midL (kd[5]?.getD 0) 1:=by
 unfold raysL;obtain⟨s1,s2⟩:=A4I (A16 (P.wthL (P.units 2 2) (A2A kd)) 1 1);refine A1j (lt:=fun x y=>x.1<y.1) (s1.trans ?_) s2 (by unfold midL;split<;>simp);unfold A0Z;rw[A10 (fun s=>knZ (P.wthL (P.units 2 2) (A2A kd)) s.2.1 s.2.2),show B5X 1 1=[(3,2,1),(5,0,2),(7,0,1),(1,1,2)]by decide];simp only[List.map_cons,List.map_nil,List.nil_append,A2e hk 2 1 5 (by decide) (by decide) (by rw[A0T];decide),A2e hk 0 2 1 (by decide) (by decide) (by rw[A0T];decide),A2e hk 0 1 0 (by decide) (by decide) (by rw[A0T];decide),A2e hk 1 2 3 (by decide) (by decide) (by rw[A0T];decide)];have e:∀(j r:Nat),C34[j]? =some r->(A2A kd)[j]?.getD 0=kd[r]?.getD 0:=fun j r h=>by unfold A2A;rw[List.getElem?_map,h];rfl
 rw[e 5 8 rfl,e 1 5 rfl,e 0 8 rfl,e 3 5 rfl];unfold midL nzB;generalize kd[5]?.getD 0=q
 by_cases hq:q=0
 ·subst hq;simp[h8]
 ·simp[h8,hq]<;>exact List.Perm.swap _ _ _
theorem C5e {kd:List Int}(hk:P.kds 2 2 (A2A kd))(h8:kd[8]?.getD 0=0):raysL (P.wthL (P.units 2 2) (A2A kd)) 3 1=midL (kd[7]?.getD 0) 3:=by
 unfold raysL;obtain⟨s1,s2⟩:=A4I (A16 (P.wthL (P.units 2 2) (A2A kd)) 3 1);refine A1j (lt:=fun x y=>x.1<y.1) (s1.trans ?_) s2 (by unfold midL;split<;>simp);unfold A0Z;rw[A10 (fun s=>knZ (P.wthL (P.units 2 2) (A2A kd)) s.2.1 s.2.2),show B5X 3 1=[(3,6,1),(5,4,2),(7,4,1),(1,5,2)]by decide];simp only[List.map_cons,List.map_nil,List.nil_append,A2e hk 6 1 10 (by decide) (by decide) (by rw[A0T];decide),A2e hk 4 2 7 (by decide) (by decide) (by rw[A0T];decide),A2e hk 4 1 6 (by decide) (by decide) (by rw[A0T];decide),A2e hk 5 2 8 (by decide) (by decide) (by rw[A0T];decide)];have e:∀(j r:Nat),C34[j]? =some r->(A2A kd)[j]?.getD 0=kd[r]?.getD 0:=fun j r h=>by unfold A2A;rw[List.getElem?_map,h];rfl
 rw[e 10 7 rfl,e 7 8 rfl,e 6 7 rfl,e 8 8 rfl];unfold midL nzB;generalize kd[7]?.getD 0=q
 by_cases hq:q=0
 ·subst hq;simp[h8]
 ·simp[h8,hq]<;>exact List.Perm.swap _ _ _
theorem C5f {kd:List Int}(hk:P.kds 2 2 (A2A kd))(h8:kd[8]?.getD 0=0):raysL (P.wthL (P.units 2 2) (A2A kd)) 1 3=midL (kd[3]?.getD 0) 3:=by
 unfold raysL;obtain⟨s1,s2⟩:=A4I (A16 (P.wthL (P.units 2 2) (A2A kd)) 1 3);refine A1j (lt:=fun x y=>x.1<y.1) (s1.trans ?_) s2 (by unfold midL;split<;>simp);unfold A0Z;rw[A10 (fun s=>knZ (P.wthL (P.units 2 2) (A2A kd)) s.2.1 s.2.2),show B5X 1 3=[(3,10,1),(5,8,2),(7,8,1),(1,9,2)]by decide];simp only[List.map_cons,List.map_nil,List.nil_append,A2e hk 10 1 15 (by decide) (by decide) (by rw[A0T];decide),A2e hk 8 2 12 (by decide) (by decide) (by rw[A0T];decide),A2e hk 8 1 11 (by decide) (by decide) (by rw[A0T];decide),A2e hk 9 2 14 (by decide) (by decide) (by rw[A0T];decide)];have e:∀(j r:Nat),C34[j]? =some r->(A2A kd)[j]?.getD 0=kd[r]?.getD 0:=fun j r h=>by unfold A2A;rw[List.getElem?_map,h];rfl
 rw[e 15 3 rfl,e 12 8 rfl,e 11 3 rfl,e 14 8 rfl];unfold midL nzB;generalize kd[3]?.getD 0=q
 by_cases hq:q=0
 ·subst hq;simp[h8]
 ·simp[h8,hq]<;>exact List.Perm.swap _ _ _
theorem C5g {kd:List Int}(hk:P.kds 2 2 (A2A kd))(h8:kd[8]?.getD 0=0):raysL (P.wthL (P.units 2 2) (A2A kd)) 3 3=midL (kd[1]?.getD 0) 1:=by
 unfold raysL;obtain⟨s1,s2⟩:=A4I (A16 (P.wthL (P.units 2 2) (A2A kd)) 3 3);refine A1j (lt:=fun x y=>x.1<y.1) (s1.trans ?_) s2 (by unfold midL;split<;>simp);unfold A0Z;rw[A10 (fun s=>knZ (P.wthL (P.units 2 2) (A2A kd)) s.2.1 s.2.2),show B5X 3 3=[(3,14,1),(5,12,2),(7,12,1),(1,13,2)]by decide];simp only[List.map_cons,List.map_nil,List.nil_append,A2e hk 14 1 19 (by decide) (by decide) (by rw[A0T];decide),A2e hk 12 2 17 (by decide) (by decide) (by rw[A0T];decide),A2e hk 12 1 16 (by decide) (by decide) (by rw[A0T];decide),A2e hk 13 2 18 (by decide) (by decide) (by rw[A0T];decide)];have e:∀(j r:Nat),C34[j]? =some r->(A2A kd)[j]?.getD 0=kd[r]?.getD 0:=fun j r h=>by unfold A2A;rw[List.getElem?_map,h];rfl
 rw[e 19 8 rfl,e 17 1 rfl,e 16 8 rfl,e 18 1 rfl];unfold midL nzB;generalize kd[1]?.getD 0=q
 by_cases hq:q=0
 ·subst hq;simp[h8]
 ·simp[h8,hq]<;>exact List.Perm.swap _ _ _
end Go.Proofs.YtfafinkgmhkdmaaGreatDoor.X
