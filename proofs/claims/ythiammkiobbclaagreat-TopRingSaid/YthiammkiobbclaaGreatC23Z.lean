/-
 Rings: the contracts of growing, of all ways, Count and First.
-/
import Derived.Test.YthiammkiobbclaaGreatC22Z
set_option maxRecDepth 1000000
set_option linter.unusedVariables false
set_option linter.unusedSimpArgs false
namespace Go.Proofs.YthiammkiobbclaaGreat.X
open Go Go.Ab

theorem rgt40c:CtOk Tryz.prog G 40 rg40c:=by
 intro args r h hp
 unfold rg40c at h
 split at h
 ·rename_i a n c1 k m c2 r p c3 x0 x1 x2 x3 x4 x5 x6 x7 tl
  cases hM:isM 24 tl with
  |false=>rw[hM,cond_false]at h;cases h
  |true=>
  rw[hM,cond_true]at h
  cases h
  obtain⟨hc,A,h1,h2,h3,h4⟩:=hp
  obtain⟨rfl,rfl,rfl⟩:=hc
  have:=rgt40 [.agg [.imm (.ints .i64 a) a.length c1,.imm (.ints .u8 k) k.length c2,.imm (.ints .i64 r) r.length c3],.agg (.int .i64 x0:: .int .i64 x1:: .int .i64 x2:: .int .i64 x3:: .int .i64 x4:: .int .i64 x5:: .int .i64 x6:: .int .i64 x7::tl)]
   ⟨.bool (crR a.length r [x0,x1,x2,x3,x4,x5,x6,x7]),[],some (cok a k r a.length k.length r.length∧0<a.length∧a.length≤8∧r.length=a.length+1)⟩ (by show cond (isM 24 tl) _ _=_;rw[hM];rfl) ⟨cok_self ..,h3,h4,h1⟩
  rw[crR_eq A]at this
  exact this
 ·cases h
theorem tGrok:CtsOk Tryz.prog G tGr:=⟨rgt39,rgt40c,rgt41,rgt42,ct67,trivial⟩
theorem rgt39b:CtOk Tryz.prog G 39 rg39b:=by
 intro args r h hp
 unfold rg39b at h
 split at h
 ·exact rgt39z _ r h hp
 ·exact rgt39 _ r h hp
theorem tGrnok:CtsOk Tryz.prog G tGrn:=⟨rgt39b,rgt40c,rgt41,rgt42z,ct41n,trivial⟩
/-! ### Growing -/
def S38 (a k r o:List Int)(L:List (List Int)):Prop:=
 SpecD Tryz.prog G (.fn 38 [] []) [immN .i64 o,.ptr 9130 0,.ptr 64 0,.ptr 320 0,.ptr 193 0,.ptr 256 0] (hrG a k r L) (.tup []) (wrG (grwO a.length r (rotR k) L o)) []
theorem chGr_ok {a k r:List Int}{q:Nat}(hS:q≤a.length→0<q→∀o L,o.length=q→okG o→okL a L→S38 a k r o L):
  ∀h cv args e,chGr a k r q h cv args=some e→optP e.p→SpecD Tryz.prog G cv args h e.v e.ws []:=by
 intro h cv args e he hp
 unfold chGr at he
 split at he
 ·split at he
  ·rename_i f i n p j m _ _ _ o _ _ _ _ _ _ _ x _ _ _ _ _ _ h1 h2
   rw[cond_eq_ite]at he
   split at he
   ·rename_i hk
    cases he
    simp only[Bool.and_eq_true]at hk
    have e1:=Nat.eq_of_beq_eq_true hk.1
    have e2:=Nat.eq_of_beq_eq_true hk.2.1
    have e3:=Nat.eq_of_beq_eq_true hk.2.2
    subst e1 e2 e3
    obtain⟨rfl,rfl,rfl,h0,hz,hp0,hp1⟩:=hp
    have:=sp59 (x:=x) (cv:=some 1) (i:=p.toNat) (o:=o) (by omega) h0 hz
    rwa [show((p.toNat:Nat):Int)=p by omega]at this
   ·cases he
  ·cases he
 ·split at he
  ·rename_i f p j m _ x _ _ _ _ _ _ h1
   rw[cond_eq_ite]at he
   split at he
   ·rename_i hk
    cases he
    simp only[Bool.and_eq_true]at hk
    have e1:=Nat.eq_of_beq_eq_true hk.1
    have e2:=Nat.eq_of_beq_eq_true hk.2
    subst e1 e2
    obtain⟨rfl,rfl,rfl⟩:=hp
    exact sp59n
   ·cases he
  ·cases he
 ·split at he
  ·rename_i f o m _ c d g u v _ vs _ _ _ _ _ _ h1
   rw[cond_eq_ite]at he
   split at he
   ·rename_i hk
    cases he
    simp only[Bool.and_eq_true]at hk
    have e1:=Nat.eq_of_beq_eq_true hk.1
    have e2:=Nat.eq_of_beq_eq_true hk.2.1
    have e3:=Nat.eq_of_beq_eq_true hk.2.2.1
    have e4:=Nat.eq_of_beq_eq_true hk.2.2.2.1
    have e5:=Nat.eq_of_beq_eq_true hk.2.2.2.2.1
    have e6:=Nat.eq_of_beq_eq_true hk.2.2.2.2.2
    subst e1 e2 e3 e4 e5 e6
    obtain⟨rfl,rfl,hq,hq1,hq2,hg,hl⟩:=hp
    have:=hS hq1 hq2 o (unO vs) hq hg hl
    unfold S38 at this
    intro F ρ w xs hm hv
    obtain⟨vl⟩:=xs
    refine this F ρ w ⟨vl⟩ hm ?_
    cases hv with
    |cons _ _ x1 r1 hx1 hv=>
     cases hx1 with
     |imm _ _ hi=>exact .cons _ _ _ _ (.imm _ _ hi.caps) hv
   ·cases he
  ·cases he
 ·cases he
theorem alt_wide {n:Nat}{r:List Int}(A:Alt n r):wideR r n:=fun c hc=>by
 rcases Nat.mod_two_eq_zero_or_one c with h|h
 ·have:=A.up c hc h;omega
 ·have:=A.dn c hc h;omega
theorem sp38_step {a k r o:List Int}{L:List (List Int)}(hN:okR a k r)(hT:TabOk Tryz.prog G (TGr a k r (o.length+1)))(h0:0<o.length)(hq:o.length≤a.length)(ho:okG o)(hL:okL a L):S38 a k r o L:=by
 have hN':=hN
 obtain⟨A,n3,n2,n0,n1⟩:=hN
 unfold S38
 refine fnD_spec hcm hmx hT ok38 rfl (ob_d_38 a k r o L) ?_
 dsimp -failIfUnchanged -proj -eta -iota -zeta only[rd,rdw,qs,ql,qx]
 have hc:=cok_self a k r
 have hO:=perm_okO ho (by omega:o.length≤8)
 have hlp:=leastL_perm r o
 have hlO:=perm_okO hlp (by omega:o.length≤8)
 have hll:=leastL_len r o
 have hLl:=okL_len hL n1
 have hev:=A.ev
 have hw:wideR r o.length:=fun c hc=>alt_wide A c (by omega)
 have hpk:=padK_len (l:=leastL r o) (by omega)
 simp only[outV_un,inR_i64,and_true,true_and,leb_iff,leb_no,ltb_iff,ltb_no,ltn_iff,len'_iff,iI,insA_len',Int.toNat_natCast,forall_const,true_imp_iff,size_ints,hpk]
 refine⟨hO,⟨hc,hN'⟩,fun h1=>?_,fun h1=>⟨⟨hc,n0,hev,n1,n2⟩,fun h2=>?_,fun h2=>⟨fun h3=>⟨by omega,⟨0,by omega,by omega,?_,hL⟩,?_⟩,fun h3=>⟨⟨hc,hO,by omega,by omega,hw⟩,Nat.ble_eq_true_of_le (by omega),by omega,fun h4=>?_,fun h4=>?_⟩⟩⟩⟩
 ·rw[grwO_stop (cwB_or.2 (.inl h1))];exact⟨rfl,rfl,rfl,rfl,rfl⟩
 ·rw[grwO_stop (cwB_or.2 (.inr h2))];exact⟨rfl,rfl,rfl,rfl,rfl⟩
 ·rfl
 ·rintro⟨i,M⟩ ⟨m,hi,hm,hM,hok⟩
  simp only at hi hM hok ⊢
  subst hi
  subst hM
  simp only[Int.toNat_natCast]
  have hcn:=cwB_no h1 h2
  refine⟨fun h5=>⟨⟨h0,by omega⟩,⟨h0,by omega,by omega,by omega⟩,⟨by omega,by omega,insA_perm ho,hok⟩,by omega,⟨m+1,by omega,by omega,grwM_step.symm,grwO_ok hok (by rw[insA_len'];omega)⟩,by omega⟩,fun h5=>?_⟩
  have:m=o.length+1:=by omega
  subst this
  rw[grwO_node hcn (by omega)]
  exact⟨rfl,rfl,rfl,rfl,rfl⟩
 all_goals
  have hlen:o.length=a.length:=by omega
  have hcn:=cwB_no h1 h2
  rw[grwO_leaf hcn (by omega)]
  rw[hlen]at hlp
  rw[fpE_get n1 hlp L hL.2]at h4
  unfold addU
 ·have hm:leastL r o∉L:=fun hm=>by rw[if_pos hm]at h4;cases h4
  have hcb:L.contains (leastL r o)=false:=by
   rw[← Bool.not_eq_true]
   exact fun h=>hm (List.contains_iff_mem.1 h)
  rw[hcb,cond_false,fpE_snoc,fpK_snoc,List.length_append]
  refine⟨by omega,by omega,rfl,?_,rfl,rfl,rfl⟩
  unfold outV
  rw[List.map_append];rfl
 ·have hm:leastL r o∈L:=Classical.byContradiction fun hm=>by rw[if_neg hm]at h4;cases h4
  rw[List.contains_iff_mem.2 hm]
  exact⟨rfl,rfl,rfl,rfl,rfl⟩
/-- Growing, whatever the pile's length. -/
theorem sp38 {a k r:List Int}(hN:okR a k r):∀(d q:Nat),q+d=a.length→0<q→∀o L,o.length=q→okG o→okL a L→S38 a k r o L
 |0,q,hd,h0,o,L,hl,ho,hL=>by
  subst hl
  exact sp38_step hN (tabL_ok (chGr_ok fun h _=>by omega) tGrok) h0 (by omega) ho hL
 |d+1,q,hd,h0,o,L,hl,ho,hL=>by
  subst hl
  exact sp38_step hN (tabL_ok (chGr_ok fun h h'=>sp38 hN d (o.length+1) (by omega) h') tGrok) h0 (by omega) ho hL
theorem TGrok {a k r:List Int}(hN:okR a k r)(q:Nat):∀h cv args e,chGr a k r q h cv args=some e→optP e.p→SpecD Tryz.prog G cv args h e.v e.ws []:=
 chGr_ok fun h h0=>sp38 hN (a.length-q) q (by omega) h0
theorem sp38n {a k r:List Int}(hN:okR a k r):SpecD Tryz.prog G (.fn 38 [] []) [.nils,.ptr 9130 0,.ptr 64 0,.ptr 320 0,.ptr 193 0,.ptr 256 0] (hrG a k r []) (.tup []) (wrG (grwO a.length r (rotR k) [] [])) []:=by
 refine fnD_spec hcm hmx (tabL_ok (TGrok hN 1) tGrnok) ok38 rfl (ob_d_38n a k r) ?_
 dsimp -failIfUnchanged -proj -eta -iota -zeta only[rd,rdw,qs,ql,qx]
 have hN':=hN
 obtain⟨A,n3,n2,n0,n1⟩:=hN
 have hc:=cok_self a k r
 have hev:=A.ev
 have hrk:rkL []=[-1,-1,-1,-1,-1,-1,-1,-1]:=rfl
 simp only[outV_un,inR_i64,and_true,true_and,leb_iff,leb_no,ltb_iff,ltb_no,ltn_iff,len'_iff,iI,insA_len',Int.toNat_natCast,forall_const,true_imp_iff,← hrk]
 refine⟨⟨hc,hN'⟩,fun h1=>?_,fun h1=>⟨⟨hc,n0,hev,n1,n2⟩,fun h2=>?_,fun h2=>⟨fun h3=>⟨⟨by omega,by omega,List.Perm.refl _,List.nodup_nil,fun l hl=>by cases hl⟩,?_⟩,fun h3=>by omega⟩⟩⟩
 ·rw[grwO_stop (cwB_or.2 (.inl h1))];exact⟨rfl,rfl,rfl,rfl,rfl⟩
 ·rw[grwO_stop (cwB_or.2 (.inr h2))];exact⟨rfl,rfl,rfl,rfl,rfl⟩
 ·have e:grwO a.length r (rotR k) [] []=grwO a.length r (rotR k) [] [0]:=by
   rw[grwO_node (cwB_no h1 h2) (by simpa using h3)];exact grwM_step
  rw[e];exact⟨rfl,rfl,rfl,rfl,rfl⟩
theorem chWr_ok {a k r:List Int}(hN:okR a k r):∀h cv args e,chWr a k r h cv args=some e→optP e.p→SpecD Tryz.prog G cv args h e.v e.ws []:=by
 intro h cv args e he hp
 unfold chWr at he
 split at he
 ·rename_i f c d g u v vs _ _ _ _ _ _ h1
  rw[cond_eq_ite]at he
  split at he
  ·rename_i hk
   cases he
   simp only[Bool.and_eq_true]at hk
   have e1:=Nat.eq_of_beq_eq_true hk.1
   have e2:=Nat.eq_of_beq_eq_true hk.2.1
   have e3:=Nat.eq_of_beq_eq_true hk.2.2.1
   have e4:=Nat.eq_of_beq_eq_true hk.2.2.2.1
   have e5:=Nat.eq_of_beq_eq_true hk.2.2.2.2.1
   have e6:=Nat.eq_of_beq_eq_true hk.2.2.2.2.2
   subst e1 e2 e3 e4 e5 e6
   obtain⟨rfl,_⟩:=hp
   exact sp38n hN
  ·cases he
 ·rename_i f i n g vs _ _ _ _ _ _ h1
  rw[cond_eq_ite]at he
  split at he
  ·rename_i hk
   cases he
   simp only[Bool.and_eq_true]at hk
   have e1:=Nat.eq_of_beq_eq_true hk.1
   have e2:=Nat.eq_of_beq_eq_true hk.2.1
   have e3:=Nat.eq_of_beq_eq_true hk.2.2
   subst e1 e2 e3
   obtain⟨rfl,rfl,hl⟩:=hp
   exact sp61c hl hN.2.2.2.2
  ·cases he
 ·cases he
/-! ### A valid ring -/
theorem rays_next {a:List Int}{m:Nat}(h:m<a.length):gR (raysL a) ((m:Int)+1)=gR (raysL a) m+a[m]?.getD 0*(1-2*(m:Int).tmod 2):=by
 have:=rayL_get a 0 true m h
 unfold gR
 rw[show((m:Int)+1).toNat=m+1 by omega,Int.toNat_natCast]
 show(rayL 0 true a)[m+1]?.getD 0=(rayL 0 true a)[m]?.getD 0+_
 rw[this]
 show _+_*(1*sgI m)=_
 unfold sgI
 rw[Int.one_mul]
theorem ang_get {a:List Int}{p q:Int}(hA:∀x∈a,p≤x∧x≤q){m:Nat}(g:m<a.length):p≤a[m]?.getD 0∧a[m]?.getD 0≤q:=by
 rw[List.getElem?_eq_getElem g]
 exact hA _ (List.getElem_mem g)
theorem rays_0 (a:List Int):gR (raysL a) 0=0:=by
 show gR (rayL 0 true a) 0=0
 cases a<;>rfl
theorem ring_ok {a k:List Int}(h:okRing a k):okR a k (raysL a):=by
 obtain⟨hA,h8,h0,hk,hev,hkk,hz⟩:=h
 refine⟨⟨hev,fun m hm he=>?_,fun m hm he=>?_,by rw[hz,rays_0]⟩,raysL_len a,hk,h0,h8⟩
 ·have h1:=rays_next hm
  have h2:=ang_get hA hm
  have h3:(m:Int).tmod 2=0:=by rw[Int.tmod_eq_emod_of_nonneg (by omega)];omega
  rw[h3]at h1
  omega
 ·have h1:=rays_next hm
  have h2:=ang_get hA hm
  have h3:(m:Int).tmod 2=1:=by rw[Int.tmod_eq_emod_of_nonneg (by omega)];omega
  rw[h3]at h1
  omega
theorem rotR_mem {k:List Int}{x:Int}:x∈rotR k↔x∈k:=by
 unfold rotR
 rw[List.mem_append,or_comm,← List.mem_append,List.take_append_drop]
theorem ring_alt {a k:List Int}(h:altS a (rotR k)=true)(h0:0<a.length):okRing a k:=by
 obtain⟨h1,h2,h3,h4⟩:=alt_facts h
 have A:=alt_of h
 refine⟨fun x hx=>?_,h2,h0,by rw[← rotR_len k];exact h1.symm,A.ev,fun x hx=>h4 x (rotR_mem.2 hx),by rw[A.cl,rays_0]⟩
 have h5:=h3.1 x hx
 obtain⟨i,hi,rfl⟩:=List.getElem_of_mem hx
 have e:(a.take i).sum+(a.drop i).sum=a.sum:=by rw[← List.sum_append,List.take_append_drop]
 have e2:(a.drop i).sum=a[i]+(a.drop (i+1)).sum:=by rw[List.drop_eq_getElem_cons hi,List.sum_cons]
 have:=okA_drop h3 (i+1)
 have:0≤(a.take i).sum:=sum_nonneg fun x hx=>by have:=h3.1 x (List.mem_of_mem_take hx);omega
 have:=h3.2
 omega
theorem sum_le {q:Int}:∀(a:List Int),(∀x∈a,x≤q)→a.sum≤q*a.length
 |[],_=>by simp
 |x::a,h=>by
  have h1:=h x (List.mem_cons_self ..)
  have h2:=sum_le a fun y hy=>h y (List.mem_cons_of_mem _ hy)
  rw[List.sum_cons,List.length_cons,Int.natCast_succ,Int.mul_add]
  omega
theorem rays_bd2 {a:List Int}(hA:∀x∈a,1≤x∧x≤64)(h8:a.length≤8):∀y∈raysL a,-512≤y∧y≤512:=fun y hy=>by
 have h1:=rayL_bd a 0 true (fun x hx=>(hA x hx).1) y hy
 have h2:=sum_le a (q:=64) fun x hx=>(hA x hx).2
 omega
end Go.Proofs.YthiammkiobbclaaGreat.X
