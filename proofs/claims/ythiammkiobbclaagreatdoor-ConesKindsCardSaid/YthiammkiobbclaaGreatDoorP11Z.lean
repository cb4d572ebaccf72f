/-
 Cones, plain: a fan folds exactly if it has a way; the choices that fold.
-/
import Derived.Test.YthiammkiobbclaaGreatDoorP10Z
import Derived.Test.YthiammkiobbclaaGreatDoorC10Z
set_option maxRecDepth 1000000
set_option linter.unusedVariables false
namespace Go.Proofs.YthiammkiobbclaaGreatDoor.X
open Go Go.Ab

/-- All kinds that fit, in their order. -/
def fitsL:List Int→List (List Int)
 |[]=>[[]]
 |x::k=>(bif x==1||x==3 then(fitsL k).map (1::·)else[])++(bif x==2||x==3 then(fitsL k).map (2::·)else[])
theorem kBs_all:(List.range 8).all (fun n=>(List.range (2 ^ n)).all fun m=>kB (m:Nat) (n:Nat)==1&&(kB ((m:Nat)+2 ^ n) (n:Nat)==2&&(List.range n).all fun i=>kB ((m:Nat)+2 ^ n) (i:Nat)==kB (m:Nat) (i:Nat)))=true:=by decide +kernel
theorem kB_facts {m:Int}{n:Nat}(hm:okM m n)(hn:n<8):kB m n=1∧kB (m+2 ^ n) n=2∧∀i:Nat,i<n→kB (m+2 ^ n) i=kB m i:=by
 obtain⟨h0,h1,_⟩:=hm
 have h1':m.toNat<2 ^ n:=by
  have:((2 ^ n:Nat):Int)=2 ^ n:=by simp
  omega
 have:=List.all_eq_true.1 kBs_all n (List.mem_range.2 hn)
 have:=List.all_eq_true.1 this m.toNat (List.mem_range.2 h1')
 rw[show((m.toNat:Nat):Int)=m by omega]at this
 simp only[Bool.and_eq_true,beq_iff_eq,List.all_eq_true,List.mem_range]at this
 exact⟨this.1,this.2.1,this.2.2⟩
theorem kdM_succ (m:Int)(n:Nat):kdM m (n+1)=kdM m n++[kB m n]:=by
 unfold kdM
 rw[List.range_succ,List.map_append];rfl
theorem okM_0 {m:Int}{n:Nat}(h:okM m n)(hn:n<8):okM m (n+1)∧okM (m+2 ^ n) (n+1):=by
 obtain⟨h0,h1,h2⟩:=h
 have:(2:Int) ^ (n+1)=2 ^ n+2 ^ n:=by rw[Int.pow_succ];omega
 have hp:(0:Int)<2 ^ n:=Int.pow_pos (by decide)
 exact⟨⟨h0,by omega,by omega⟩,⟨by omega,by omega,by omega⟩⟩
theorem chL_fits (k:List Int)(hk:k.length≤8):∀(f:Nat) (m:Int) (n:Nat),n+f=k.length→okM m n→chL k f m n=(fitsL (k.drop n)).map (kdM m n++·)
 |0,m,n,h,hm=>by
  rw[List.drop_eq_nil_of_le (by omega)]
  simp[chL,fitsL]
 |f+1,m,n,h,hm=>by
  have hn:n<k.length:=by omega
  have e:gR k (n:Int)=k[n]:=by
   unfold gR;rw[Int.toNat_natCast,List.getElem?_eq_getElem hn];rfl
  obtain⟨f1,f2,f3⟩:=kB_facts hm (by omega)
  obtain⟨o1,o2⟩:=okM_0 hm (by omega)
  have d1:kdM m (n+1)=kdM m n++[1]:=by rw[kdM_succ,f1]
  have d2:kdM (m+2 ^ n) (n+1)=kdM m n++[2]:=by
   rw[kdM_succ,f2]
   congr 1
   unfold kdM
   exact List.map_congr_left fun i hi=>f3 i (List.mem_range.1 hi)
  have i1:=chL_fits k hk f m (n+1) (by omega) o1
  have i2:=chL_fits k hk f (m+2 ^ n) (n+1) (by omega) o2
  unfold chL
  rw[i1,i2,d1,d2,List.drop_eq_getElem_cons hn]
  rw[show fitsL (k[n]::k.drop (n+1))=(bif k[n]==1||k[n]==3 then(fitsL (k.drop (n+1))).map (1::·)else[])++(bif k[n]==2||k[n]==3 then(fitsL (k.drop (n+1))).map (2::·)else[])from rfl]
  have g1:fitK k n 0=(k[n]==1||k[n]==3):=by unfold fitK;rw[e];rfl
  have g2:fitK k n 1=(k[n]==2||k[n]==3):=by unfold fitK;rw[e];rfl
  rw[g1,g2,List.map_append]
  congr 1
  ·cases(k[n]==1||k[n]==3)with
   |false=>rfl
   |true=>
    rw[cond_true,cond_true,List.map_map]
    exact List.map_congr_left fun x _=>by simp
  ·cases(k[n]==2||k[n]==3)with
   |false=>rfl
   |true=>
    rw[cond_true,cond_true,List.map_map]
    exact List.map_congr_left fun x _=>by simp
theorem knds_eq {a k:List Int}(hc:chk a k=0):kndsL a k=(fitsL k).filter fun h=>foldB a h:=by
 obtain⟨h1,h2,h3⟩:=chk_ok hc
 have hl:=okA_len h2
 unfold kndsL kndO
 rw[if_pos hc,List.nil_append,chL_fits k (by omega) (k.length-0) 0 0 (by omega) ⟨by decide,by decide,by decide⟩]
 congr 1
 rw[List.drop_zero]
 show(fitsL k).map (fun x=>[]++x)=_
 simp
theorem fits_mem:∀{k x:List Int},x∈fitsL k↔x.length=k.length∧(∀y∈x,y=1∨y=2)∧fitZ k x=true
 |[],x=>by
  unfold fitsL
  rw[List.mem_singleton]
  constructor
  ·rintro rfl;exact⟨rfl,fun y hy=>(by cases hy),rfl⟩
  ·intro h;exact List.length_eq_zero_iff.1 h.1
 |c::k,x=>by
  unfold fitsL
  have ih:∀y,y∈fitsL k↔_:=fun y=>fits_mem
  rw[List.mem_append]
  constructor
  ·rintro(h|h)
   ·cases hb:(c==1||c==3)with
    |false=>rw[hb]at h;cases h
    |true=>
     rw[hb,cond_true,List.mem_map]at h
     obtain⟨y,hy,rfl⟩:=h
     obtain⟨e1,e2,e3⟩:=(ih y).1 hy
     refine⟨by simp[e1],fun z hz=>?_,?_⟩
     ·rcases List.mem_cons.1 hz with rfl|hz
      ·exact .inl rfl
      ·exact e2 z hz
     ·rw[fitZ_cons,e3,Bool.and_true,Bool.or_comm,hb]
   ·cases hb:(c==2||c==3)with
    |false=>rw[hb]at h;cases h
    |true=>
     rw[hb,cond_true,List.mem_map]at h
     obtain⟨y,hy,rfl⟩:=h
     obtain⟨e1,e2,e3⟩:=(ih y).1 hy
     refine⟨by simp[e1],fun z hz=>?_,?_⟩
     ·rcases List.mem_cons.1 hz with rfl|hz
      ·exact .inr rfl
      ·exact e2 z hz
     ·rw[fitZ_cons,e3,Bool.and_true,Bool.or_comm,hb]
  ·rintro⟨e1,e2,e3⟩
   match x,e1,e2,e3 with
   |y::x,e1,e2,e3=>
    rw[fitZ_cons,Bool.and_eq_true,Bool.or_comm]at e3
    have hx:x∈fitsL k:=(ih x).2 ⟨by simpa using e1,fun z hz=>e2 z (List.mem_cons_of_mem _ hz),e3.2⟩
    rcases e2 y (List.mem_cons_self ..)with rfl|rfl
    ·left
     rw[e3.1,cond_true]
     exact List.mem_map_of_mem hx
    ·right
     rw[e3.1,cond_true]
     exact List.mem_map_of_mem hx
theorem okF_two:∀(a h:List Int) (s:Int),a.length=h.length→(∀x∈a,1≤x)→a.sum≤s→(∀x∈h,x=1∨x=2)→okF a h s=true
 |[],[],s,_,_,_,_=>rfl
 |x::a,y::h,s,h0,h1,h2,h3=>by
  have hx:=h1 x (List.mem_cons_self ..)
  have hy:=h3 y (List.mem_cons_self ..)
  have hr:0≤a.sum:=sum_nonneg fun y hy=>by have:=h1 y (List.mem_cons_of_mem _ hy);omega
  rw[List.sum_cons]at h2
  simp only[okF,Bool.and_eq_true,decide_eq_true_eq,Bool.or_eq_true,beq_iff_eq]
  exact⟨hx,by omega,hy,okF_two a h _ (by simpa using h0) (fun z hz=>h1 z (List.mem_cons_of_mem _ hz)) (by omega) fun z hz=>h3 z (List.mem_cons_of_mem _ hz)⟩
 |[],y::h,s,h0,_,_,_=>by simp at h0
 |x::a,[],s,h0,_,_,_=>by simp at h0
theorem fold_fits {a k x:List Int}(hc:chk a k=0)(hx:x∈fitsL k):foldB a x=(altB a&&(ksOf a).contains x):=by
 obtain⟨h1,h2,h3⟩:=chk_ok hc
 obtain⟨e1,e2,e3⟩:=fits_mem.1 hx
 exact fold_ks (okF_two a x 8 (by omega) h2.1 h2.2 e2)
end Go.Proofs.YthiammkiobbclaaGreatDoor.X
