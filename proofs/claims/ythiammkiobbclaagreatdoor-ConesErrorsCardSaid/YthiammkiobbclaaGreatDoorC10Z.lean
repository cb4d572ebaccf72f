/-
 Cones: the contracts of the choices that fold.
-/
import Derived.Test.YthiammkiobbclaaGreatDoorO10Z
import Derived.Test.YthiammkiobbclaaGreatDoorC9Z
import Derived.Test.YthiammkiobbclaaGreatDoorC5Z
set_option maxRecDepth 1000000
set_option linter.unusedVariables false
set_option linter.unusedSimpArgs false
namespace Go.Proofs.YthiammkiobbclaaGreatDoor.X
open Go Go.Ab

/-! ### Plain facts -/
theorem bits_all:(List.range 8).all (fun n=>(List.range (2 ^ n)).all fun m=>(List.range 2).all fun b=>bitI BinOp.or .i64 ((m:Nat):Int) (((b:Nat):Int)*2 ^ n)==(m:Int)+(b:Int)*2 ^ n)=true:=by decide +kernel
theorem bit_or {m:Int}{n b:Nat}(hm:okM m n)(hn:n<8)(hb:b<2):bitI BinOp.or .i64 m ((b:Int)*2 ^ n)=m+b*2 ^ n:=by
 obtain⟨h0,h1,_⟩:=hm
 have h1':m.toNat<2 ^ n:=by
  have:((2 ^ n:Nat):Int)=2 ^ n:=by simp
  omega
 have:=List.all_eq_true.1 bits_all n (List.mem_range.2 hn)
 have:=List.all_eq_true.1 this m.toNat (List.mem_range.2 h1')
 have:=List.all_eq_true.1 this b (List.mem_range.2 hb)
 rw[show((m.toNat:Nat):Int)=m by omega]at this
 exact eq_of_beq this
theorem bitA_all:(List.range 256).all (fun m=>(List.range 8).all fun i=>bitI BinOp.and .i64 (((m:Nat):Int).fdiv (2 ^ i)) 1==(((m:Nat):Int).fdiv (2 ^ i)).fmod 2)=true:=by decide +kernel
theorem bit_and {m:Int}{n i:Nat}(hm:okM m n)(hi:i<8):bitI BinOp.and .i64 (m.fdiv (2 ^ i)) 1=(m.fdiv (2 ^ i)).fmod 2:=by
 obtain⟨h0,h1,h2⟩:=hm
 have h1':m.toNat<256:=by
  have h3:(2:Int) ^ n≤256:=(by decide:∀n,n<9→(2:Int) ^ n≤256) n (by omega)
  omega
 have:=List.all_eq_true.1 bitA_all m.toNat (List.mem_range.2 h1')
 have:=List.all_eq_true.1 this i (List.mem_range.2 hi)
 rw[show((m.toNat:Nat):Int)=m by omega]at this
 exact eq_of_beq this
theorem kB_bd (m i:Int):1≤kB m i∧kB m i≤2:=by
 unfold kB
 have h1:=Int.fmod_nonneg_of_pos (m.fdiv (2 ^ i.toNat)) (b:=2) (by decide)
 have h2:=Int.fmod_lt_of_pos (m.fdiv (2 ^ i.toNat)) (b:=2) (by decide)
 omega
theorem kdM_len (m:Int)(n:Nat):(kdM m n).length=n:=by unfold kdM;rw[List.length_map,List.length_range]
theorem kdM_set {m:Int}{n i:Nat}(h:i<n):((kdM m n).take i++List.replicate (n-i) 0).set i (kB m i)=(kdM m n).take (i+1)++List.replicate (n-(i+1)) 0:=by
 have hl:=kdM_len m n
 have ht:((kdM m n).take i).length=i:=by rw[List.length_take];omega
 rw[List.set_append_right _ _ (by omega),ht,Nat.sub_self,show n-i=(n-(i+1))+1 by omega,List.replicate_succ,List.set_cons_zero,List.take_add_one,List.getElem?_eq_getElem (by omega)]
 have:(kdM m n)[i]=kB m i:=by unfold kdM;rw[List.getElem_map,List.getElem_range]
 rw[this,List.append_assoc];rfl
theorem fnsV_un (a:List Int)(H:List (List Int)):unK (fnsV a H)=H:=by
 induction H with
 |nil=>rfl
 |cons x r ih=>
  show x::unK (fnsV a r)=_
  rw[ih]
theorem fnsV_len (a:List Int)(H:List (List Int)):(fnsV a H).length=H.length*2:=by
 induction H with
 |nil=>rfl
 |cons x r ih=>
  show(fnsV a r).length+2=_
  rw[ih,List.length_cons];omega
theorem chL_len (k:List Int):∀(f:Nat) (m:Int) (n:Nat),(chL k f m n).length≤2 ^ f
 |0,m,n=>by simp[chL]
 |f+1,m,n=>by
  unfold chL
  have h1:=chL_len k f m (n+1)
  have h2:=chL_len k f (m+2 ^ n) (n+1)
  rw[List.length_append,Nat.pow_succ]
  have c:∀(b:Bool) (l:List (List Int)),(cond b l []).length≤l.length:=fun b l=>by cases b<;>simp
  have:=c (fitK k n 0) (chL k f m (n+1))
  have:=c (fitK k n 1) (chL k f (m+2 ^ n) (n+1))
  omega
theorem kndO_len {a k:List Int}{m:Int}{n:Nat}{H:List (List Int)}:(kndO a k m n H).length≤H.length+2 ^ (k.length-n):=by
 unfold kndO
 have h1:=chL_len k (k.length-n) m n
 have h2:=List.length_filter_le (fun h=>foldB a h) (chL k (k.length-n) m n)
 rw[List.length_append];omega
theorem kndM_0 (a k:List Int)(m:Int)(n:Nat)(H:List (List Int)):kndM a k m n H 0=H:=by
 unfold kndM
 rw[show ltn 0 0=false from rfl,show ltn 1 0=false from rfl]
 simp
theorem kndM_2 {a k:List Int}{m:Int}{n:Nat}{H:List (List Int)}(h:n<k.length):kndM a k m n H 2=kndO a k m n H:=by
 unfold kndM kndO
 rw[show k.length-n=(k.length-(n+1))+1 by omega]
 rfl
theorem kndM_yes {a k:List Int}{m:Int}{n:Nat}{H:List (List Int)}{b:Nat}(hb:b<2)(h:fitK k n b=true):kndO a k (m+b*2 ^ n) (n+1) (kndM a k m n H b)=kndM a k m n H (b+1):=by
 have hb2:b=0∨b=1:=by omega
 rcases hb2 with rfl|rfl
 ·rw[kndM_0]
  unfold kndM kndO
  rw[h,show ltn 0 (0+1)=true from rfl,show ltn 1 (0+1)=false from rfl]
  simp
 ·unfold kndM kndO
  rw[h,show ltn 0 1=true from rfl,show ltn 1 1=false from rfl,show ltn 0 (1+1)=true from rfl,show ltn 1 (1+1)=true from rfl]
  simp
theorem kndM_no {a k:List Int}{m:Int}{n:Nat}{H:List (List Int)}{b:Nat}(hb:b<2)(h:fitK k n b=false):kndM a k m n H b=kndM a k m n H (b+1):=by
 have hb2:b=0∨b=1:=by omega
 rcases hb2 with rfl|rfl
 ·unfold kndM
  rw[h,show ltn 0 0=false from rfl,show ltn 1 0=false from rfl,show ltn 0 (0+1)=true from rfl,show ltn 1 (0+1)=false from rfl]
  simp
 ·unfold kndM
  rw[h,show ltn 0 1=true from rfl,show ltn 1 1=false from rfl,show ltn 0 (1+1)=true from rfl,show ltn 1 (1+1)=true from rfl]
  simp
theorem kndO_leaf {a k:List Int}{m:Int}{n:Nat}{H:List (List Int)}(h:k.length≤n):kndO a k m n H=if foldB a (kdM m n)=true then H++[kdM m n]else H:=by
 unfold kndO
 rw[show k.length-n=0 by omega]
 show H++List.filter _ [kdM m n]=_
 cases hf:foldB a (kdM m n)<;>simp[List.filter,hf]
theorem okD_of {a h:List Int}(ha:okA a)(hl:a.length=h.length)(hk:∀x∈h,1≤x∧x≤2):okD a h=true:=by
 have hc:=chk_of hl ha fun x hx=>⟨(hk x hx).1,by have:=(hk x hx).2;omega⟩
 have hm:memB h 3=false:=memB_no.2 fun hm=>by have:=(hk 3 hm).2;omega
 unfold okD dcd
 rw[if_pos hc,hm];rfl
theorem kdM_mem {m:Int}{n:Nat}{x:Int}(h:x∈kdM m n):1≤x∧x≤2:=by
 unfold kdM at h
 obtain⟨i,_,rfl⟩:=List.mem_map.1 h
 exact kB_bd m i
/-! ### Choosing -/
def S39 (a k:List Int)(m n:Int)(H:List (List Int)):Prop:=
 SpecD Tryz.prog G (.fn 39 [] []) [.int .i64 m,.int .i64 n,.ptr 64 0,.ptr 384 0,.ptr 320 0] (hpK a k H) (.tup []) (wsK a (kndO a k m n.toNat H)) []
theorem chK_ok {a k:List Int}{q:Nat}(hS:q≤k.length→∀m n H,0≤n→n.toNat=q→okM m q→okH k q H→S39 a k m n H):
  ∀h cv args e,chK a k q h cv args=some e→optP e.p→SpecD Tryz.prog G cv args h e.v e.ws []:=by
 intro h cv args e he hp
 unfold chK at he
 split at he
 ·rename_i f m n c g u vs _ _ _ _ _ _ h1
  rw[cond_eq_ite]at he
  split at he
  ·rename_i hk
   cases he
   simp only[Bool.and_eq_true]at hk
   have e1:=Nat.eq_of_beq_eq_true hk.1
   have e2:=Nat.eq_of_beq_eq_true hk.2.1
   have e3:=Nat.eq_of_beq_eq_true hk.2.2.1
   have e4:=Nat.eq_of_beq_eq_true hk.2.2.2
   subst e1 e2 e3 e4
   obtain⟨rfl,h0,hq,hl,hM,hH⟩:=hp
   exact hS hl m n _ h0 hq hM hH
  ·cases he
 ·cases he
theorem tKok:CtsOk Tryz.prog G tK:=⟨ct41f,ct41,ct14,trivial⟩
theorem sp39_step {a k:List Int}{m n:Int}{H:List (List Int)}(hc:chk a k=0)(hT:TabOk Tryz.prog G (TK a k (n.toNat+1)))(h0:0≤n)(hq:n.toNat≤k.length)(hM:okM m n.toNat)(hH:okH k n.toNat H):S39 a k m n H:=by
 obtain⟨hl,hA,hk⟩:=chk_ok hc
 have ha:=okA_len hA
 unfold S39
 refine fnD_spec hcm hmx hT ok39 rfl (ob_d_39 a k m n H) ?_
 dsimp -failIfUnchanged -proj -eta -iota -zeta only[rd,rdw,qs,ql,qx]
 obtain⟨p,rfl⟩:∃p:Nat,n=p:=⟨n.toNat,by omega⟩
 simp only[Int.toNat_natCast]at hq hM hH
 have hgR:∀x:List Int,List.getD (List.drop p x) 0 0=gR x p:=fun x=>by
  have:=gR0 (r:=x) (c:=(p:Int))
  rwa [Int.toNat_natCast]at this
 simp only[Int.toNat_natCast,fnsV_un,inR_i64,inR_u8,and_true,true_and,leb_iff,leb_no,ltb_iff,ltb_no,ltn_iff,len'_iff,iI,size_ints,List.length_drop,forall_const,true_imp_iff,beq_iff_eq,beq_eq_false_iff_ne,ne_eq,hgR]
 refine⟨fun h1=>⟨⟨0,rfl,by omega,(kndM_0 ..).symm⟩,?_⟩,fun h1=>⟨by omega,by omega,by omega,by omega,⟨0,rfl,by omega,by simp⟩,?_⟩⟩
 ·rintro⟨i,M⟩ ⟨j,hi,hj,hMm⟩
  simp only at hi hMm ⊢
  subst hi
  subst hMm
  refine⟨fun h2=>?_,fun h2=>?_⟩
  ·have hj2:j<2:=by omega
   have hmin:min p 64=p:=by omega
   have hor:=bit_or (b:=j) hM (by omega) hj2
   have hp2:(2:Int) ^ p≤128:=(by decide:∀n,n<8→(2:Int) ^ n≤128) p (by omega)
   have hp3:(0:Int)<2 ^ p:=(by decide:∀n,n<8→(0:Int)<2 ^ n) p (by omega)
   have hj3:(j:Int)=0∨(j:Int)=1:=by omega
   have hjp:0≤(j:Int)*2 ^ p∧(j:Int)*2 ^ p≤2 ^ p:=by
    rcases hj3 with e|e<;>rw[e]<;>omega
   have hpn:((p:Int)+1).toNat=p+1:=by omega
   have hM2:okM (m+j*2 ^ p) (p+1):=by
    obtain⟨m0,m1,m2⟩:=hM
    refine⟨by omega,?_,by omega⟩
    rw[Int.pow_succ];omega
   have hH2:okH k (p+1) (kndM a k m p H j):=by
    have e:2 ^ (k.length-p)=2*2 ^ (k.length-(p+1)):=by
     rw[show k.length-p=(k.length-(p+1))+1 by omega,Nat.pow_succ];omega
    unfold okH at hH ⊢
    have hlen:(kndM a k m p H j).length≤H.length+2 ^ (k.length-(p+1)):=by
     have hjj:j=0∨j=1:=by omega
     rcases hjj with rfl|rfl
     ·rw[kndM_0];omega
     ·cases hf:fitK k p 0 with
      |true=>
       rw[← kndM_yes (b:=0) (by omega) hf,kndM_0]
       exact kndO_len
      |false=>rw[← kndM_no (b:=0) (by omega) hf,kndM_0];omega
    omega
   rw[hmin,hor,hpn]
   have fit1:gR k p=1+(j:Int)→fitK k p j=true:=fun h=>by unfold fitK;rw[h];simp
   have fit2:gR k p=3→fitK k p j=true:=fun h=>by unfold fitK;rw[h];simp
   have fit3:¬ gR k p=1+(j:Int)→¬ gR k p=3→fitK k p j=false:=fun h h'=>by
    unfold fitK
    rw[beq_false_of_ne h,beq_false_of_ne h'];rfl
   refine⟨by omega,by omega,by omega,by omega,by omega,by omega,fun h3=>⟨by omega,by omega,by omega,⟨by omega,by omega,by omega,hM2,hH2⟩,by omega,⟨j+1,by omega,by omega,kndM_yes hj2 (fit1 h3)⟩,by omega⟩,fun h3=>⟨by omega,by omega,by omega,by omega,fun h4=>⟨by omega,by omega,by omega,⟨by omega,by omega,by omega,hM2,hH2⟩,by omega,⟨j+1,by omega,by omega,kndM_yes hj2 (fit2 h4)⟩,by omega⟩,fun h4=>⟨by omega,⟨j+1,by omega,by omega,kndM_no hj2 (fit3 h3 h4)⟩,by omega⟩⟩⟩
  ·have:j=2:=by omega
   subst this
   rw[kndM_2 (by omega)]
   exact⟨rfl,rfl,rfl⟩
 ·rintro⟨i,b⟩ ⟨j,hi,hj,hb⟩
  simp only at hi hb ⊢
  subst hi
  subst hb
  have hkl:=kdM_len m p
  have hpk:p=k.length:=by omega
  have hH2:H.length+1≤1000:=by
   unfold okH at hH
   have:0<2 ^ (k.length-p):=Nat.pow_pos (by decide)
   omega
  simp only[Int.toNat_natCast,List.length_append,List.length_take,List.length_replicate,hkl]
  refine⟨fun h2=>?_,fun h2=>?_⟩
  ·have hm:min j 64=j:=by omega
   have hb:=kB_bd m j
   have e:1+bitI BinOp.and .i64 (m.fdiv (2 ^ min j 64)) 1=kB m j:=by
    rw[hm,bit_and hM (by omega)]
    unfold kB
    rw[Int.toNat_natCast]
   rw[e]
   exact⟨by omega,by omega,by omega,by omega,by omega,by omega,by omega,⟨j+1,by omega,by omega,kdM_set (by omega)⟩,by omega⟩
  ·have:j=p:=by omega
   subst this
   have e:(kdM m j).take j++List.replicate (j-j) 0=kdM m j:=by
    rw[List.take_of_length_le (by omega),Nat.sub_self];simp
   rw[e,okD_of hA (by omega) fun x hx=>kdM_mem hx,Bool.true_and,kndO_leaf (by omega)]
   refine⟨by omega,fun h3=>?_,fun h3=>?_⟩
   ·rw[if_pos h3,List.length_append]
    refine⟨by omega,rfl,?_,rfl⟩
    unfold fnsV
    rw[List.flatMap_append]
    show _=_++[immL .i64 a,immL .u8 (kdM m j)]
    unfold immL
    rw[hkl]
   ·rw[h3,if_neg (by decide)];exact⟨rfl,rfl,rfl⟩
theorem sp39d {a k:List Int}(hc:chk a k=0):∀(d q:Nat),q+d=k.length→∀m n H,0≤n→n.toNat=q→okM m q→okH k q H→S39 a k m n H
 |0,q,hd,m,n,H,h0,hq,hM,hH=>by
  subst hq
  exact sp39_step hc (tabL_ok (chK_ok fun h=>by omega) tKok) h0 (by omega) hM hH
 |d+1,q,hd,m,n,H,h0,hq,hM,hH=>by
  subst hq
  exact sp39_step hc (tabL_ok (chK_ok fun h=>sp39d hc d (n.toNat+1) (by omega)) tKok) h0 (by omega) hM hH
theorem sp39c {a k:List Int}(hc:chk a k=0):SpecD Tryz.prog G (.fn 39 [] []) [.int .i64 0,.int .i64 0,.ptr 64 0,.ptr 384 0,.ptr 320 0] (hpK a k []) (.tup []) (wsK a (kndO a k 0 0 [])) []:=by
 obtain⟨hl,hA,_⟩:=chk_ok hc
 have ha:=okA_len hA
 refine sp39d hc k.length 0 (by omega) 0 0 [] (by omega) rfl ⟨by omega,by decide,by omega⟩ ?_
 unfold okH
 have:2 ^ (k.length-0)≤256:=(by decide:∀n,n<9→2 ^ n≤256) _ (by omega)
 simp only[List.length_nil];omega
theorem chW19_ok {a k:List Int}:∀h cv args e,chW19 a k h cv args=some e→optP e.p→SpecD Tryz.prog G cv args h e.v e.ws []:=by
 intro h cv args e he hp
 unfold chW19 at he
 split at he
 ·rename_i f m n c g u vs _ _ _ _ _ _ h1
  rw[cond_eq_ite]at he
  split at he
  ·rename_i hk
   cases he
   simp only[Bool.and_eq_true]at hk
   have e1:=Nat.eq_of_beq_eq_true hk.1
   have e2:=Nat.eq_of_beq_eq_true hk.2.1
   have e3:=Nat.eq_of_beq_eq_true hk.2.2.1
   have e4:=Nat.eq_of_beq_eq_true hk.2.2.2
   subst e1 e2 e3 e4
   obtain⟨rfl,rfl,rfl,hc⟩:=hp
   exact sp39c hc
  ·cases he
 ·cases he
theorem ctc42:CtOk Tryz.prog G 42 e42:=by
 intro args r h hp
 unfold e42 at h
 split at h<;>cases h
 rename_i vs n _
 refine(fnP_spec hcm hmx T0ok ok42 rfl (ob_o42c vs n) ?_:SpecP Tryz.prog G 42 [.imm (.vals vs) n none] _ []).caps
 simp only[size_vals,Int.toNat_natCast,and_true,true_and]
 exact hp
theorem T19ok (a k:List Int):TabOk Tryz.prog G (T19 a k):=tabL_ok chW19_ok ⟨ct17,ctc42,trivial⟩
theorem ctc19:CtOk Tryz.prog G 19 e19c:=by
 intro args r h hp
 unfold e19c at h
 split at h<;>cases h
 rename_i a n _ k m _
 obtain⟨rfl,rfl,hz,hz2⟩:=hp
 refine fan_caps (fnP_spec hcm hmx (T19ok a k) ok19 rfl (ob_o19c a k) ?_)
 dsimp -failIfUnchanged -proj -eta -iota -zeta only[rd,rdw,qs,ql,qx]
 unfold kndsL
 simp only[and_true,true_and,bne_iff_ne,ne_eq,bne_eq_false_iff_eq,size_vals,fnsV_len]
 refine⟨by omega,fun h=>?_,fun h=>?_⟩
 ·rw[if_neg h];exact⟨rfl,rfl,rfl⟩
 ·rw[if_pos h];simp[h]
theorem T31ok:TabOk Tryz.prog G T31:=tabL_ok noCh_ok ⟨ctc19,trivial⟩
theorem ctc31:CtOk Tryz.prog G 31 e31c:=by
 intro args r h hp
 unfold e31c at h
 split at h<;>cases h
 rename_i a n _ k m _
 obtain⟨rfl,rfl,hz,hz2⟩:=hp
 refine fan_caps (fnP_spec hcm hmx T31ok ok31 rfl (ob_o31c a k) ?_)
 simp only[and_true,true_and]
 exact⟨⟨hz,hz2⟩,rfl⟩
end Go.Proofs.YthiammkiobbclaaGreatDoor.X
