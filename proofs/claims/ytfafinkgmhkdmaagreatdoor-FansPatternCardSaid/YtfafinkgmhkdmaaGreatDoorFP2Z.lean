/-
 The plain law of patterns of fans: the pattern of a flat fan; the rays at its points; its contract.
-/
import Derived.Test.YtfafinkgmhkdmaaGreatDoorFPZ
import Derived.Test.YtfafinkgmhkdmaaGreatDoorFC3Z
set_option maxRecDepth 1000000
set_option linter.unusedVariables false
set_option linter.unusedSimpArgs false
namespace Go.Proofs.YtfafinkgmhkdmaaGreatDoor.X
open Go Go.Ab

theorem chkL_mk:∀{a k:List Int} {s:Int},a.length=k.length→(∀x∈a,1≤x)→s+a.sum≤8→(∀x∈k,1≤x∧x≤3)→chkL a k s=0
 |[],k,s,_,_,_,_=>by simp[chkL]
 |n::a,[],s,hl,_,_,_=>by simp at hl
 |n::a,x::k,s,hl,ha,hs,hk=>by
  have h1:=ha n (by simp)
  have h2:=sum_nonneg (l:=a) fun x hx=>ha x (by simp[hx])
  have h3:=hk x (by simp)
  rw[List.sum_cons]at hs
  simp only[chkL]
  rw[if_neg (by omega)]
  exact chkL_mk (by simpa using hl) (fun x hx=>ha x (by simp[hx])) (by omega) (fun x hx=>hk x (by simp[hx]))
/-- Two sorted lists of the same elements. -/
theorem perm_sorted_eq {α:Type}{lt:α→α→Prop}:∀{l2 l1:List α},l1.Perm l2→l1.Pairwise (fun x y=>¬ lt y x)→l2.Pairwise lt→l1=l2
 |[],l1,hp,_,_=>List.perm_nil.1 hp
 |x::t,l1,hp,h1,h2=>by
  cases l1 with
  |nil=>exact absurd hp.symm (by simp)
  |cons y s=>
   have hyx:y=x:=by
    have hy:y∈x::t:=hp.subset (by simp)
    rcases List.mem_cons.1 hy with e|hy
    ·exact e
    ·have hx:x∈y::s:=hp.symm.subset (by simp)
     rcases List.mem_cons.1 hx with e|hx
     ·exact e.symm
     ·exact absurd ((List.pairwise_cons.1 h2).1 y hy) ((List.pairwise_cons.1 h1).1 x hx)
   subst hyx
   rw[perm_sorted_eq ((List.perm_cons y).1 hp) (List.pairwise_cons.1 h1).2 (List.pairwise_cons.1 h2).2]
/-! ### What the checks say -/
structure FF (a:List Int)(m:Nat)(d:Int)(kd:List Int)(R:List Ry)(cr:List P.Cr):Prop where
 pm:(rawF a (kI m) d).Perm cr
 rl:R.length=m
 al:a.length=m
 un:unN kd 8=cr.length
 no:m=0→angR R R.length=[]∧kndR R=[]
 yes:0<m→tOk a (mnN a d m)=true∧angR R m=rotL' a (mnN a d m).toNat∧kndR R=rotL' (kI m) (mnN a d m).toNat∧dR R 0=lsN a d m
 ws:wsum a=8∨m=0
theorem ff_of {c:Nat}{d:Nat}(hc:c<256)(hd:d<8):FF (aC c) (nC c) d (kdN (aC c) (kI (nC c)) d (nC c)) (RI (kdN (aC c) (kI (nC c)) d (nC c))) (P.wthL uL (ksOf (kdN (aC c) (kI (nC c)) d (nC c)))):=by
 have h1:=List.all_eq_true.1 chkAll c (List.mem_range.2 hc)
 simp only[chkD,Bool.and_eq_true,Bool.or_eq_true,beq_iff_eq]at h1
 obtain⟨⟨hw,hl⟩,h2⟩:=h1
 have h3:=List.all_eq_true.1 h2 d (List.mem_range.2 hd)
 simp only[chkC,chk1,Bool.and_eq_true,Bool.or_eq_true,beq_iff_eq,decide_eq_true_eq,List.isPerm_iff]at h3
 obtain⟨p1,p2,p3,p4,p5⟩:=h3
 refine⟨p1,p2,p3,p4,fun h=>?_,fun h=>?_,hw⟩
 ·rcases p5 with⟨_,q⟩|⟨⟨q,_⟩,_⟩
  ·exact q
  ·omega
 ·rcases p5 with⟨q,_⟩|⟨⟨_,q1,q2,q3⟩,q4⟩
  ·omega
  ·exact⟨q1,q2,q3,q4⟩
/-! ### The pattern -/
theorem ksOf_len (kd:List Int):(ksOf kd).length=20:=by unfold ksOf;rw[List.length_map];rfl
theorem kds_map {ks:List Int}(h:okK ks)(kd:List Int):P.kds 2 2 (ksOf (kd.map (gK ks))):=by
 refine⟨by rw[ksOf_len,units22];rfl,fun k hk=>?_⟩
 rw[ksOf_map (gK0 ks)]at hk
 obtain⟨j,_,rfl⟩:=List.mem_map.1 hk
 have:=gK_ok h j
 exact⟨this.1,this.2.1⟩
theorem vP_map {ks:List Int}(h:okK ks)(kd:List Int):okZ (P.wthL (P.units 2 2) (ksOf (kd.map (gK ks)))):=⟨_,kds_map h kd,rfl⟩
theorem cr_lt {l:List P.Cr}(h:okZ l):l.Pairwise (fun x y=>cmpCr x y<0):=by
 have h1:=P.vP_pw h
 refine h1.imp_of_mem fun{x y} hx hy hlt=>?_
 have m1:=P.vP_mem h hx
 have m2:=P.vP_mem h hy
 rw[cmpCr_lt]
 omega
theorem crF_C {c d:Nat}{ks:List Int}(hc:c<256)(hd:d<8):crF (ofA c 0 ks) (ofK c ks) d=P.wthL (P.units 2 2) (ksOf ((kdN (aC c) (kI (nC c)) d (nC c)).map (gK ks))):=by
 have h:=ff_of hc hd
 unfold crF
 rw[ofA_C,ofK_C,h.al,kdN_map (gK0 ks)]
theorem flF_okZ {a k:List Int}{d:Int}(h:flF a k d):okZ (crF a k d):=by
 obtain⟨c,ks,hc,hk,rfl,rfl,n,rfl,hn⟩:=h
 rw[crF_C hc hn]
 exact vP_map hk _
theorem flF_chk {a k:List Int}{d:Int}(h:flF a k d):chk a k=0:=by
 obtain⟨c,ks,hc,hk,rfl,rfl,n,rfl,hn⟩:=h
 have h1:=ffold_ok (c:=c) hk 8
 obtain⟨q1,q2,q3,q4⟩:=fclose_ok h1 (Nat.le_refl 8)
 have e:ofA c 0 ks=fclose (ffold c ks 8):=by unfold ofA;rw[less0]
 rw[e,show ofK c ks=(ffold c ks 8).k from rfl]
 unfold chk
 rw[if_pos q3]
 exact chkL_mk q3 q1 (by omega) h1.kd
theorem flF_pat {a k:List Int}{d:Int}(h:flF a k d):patE a k d=0∧patL a k d=crF a k d:=by
 have hc0:=flF_chk h
 have hz:=flF_okZ h
 obtain⟨c,ks,hc,hk,ha,hkk,n,rfl,hn⟩:=h
 have hf:=ff_of hc hn
 have hE:patE a k n=0:=by
  unfold patE flB
  rw[hc0,if_pos rfl,if_pos,if_neg (by omega)]
  rw[ha,ofA_C]
  rcases hf.ws with h|h
  ·rw[h];rfl
  ·have:=hf.al
   rw[h]at this
   rw[this]
   simp
 refine⟨hE,?_⟩
 unfold patL
 rw[if_pos hE]
 obtain⟨s1,s2⟩:=sortL_perm swoCr (rawF a k n)
 refine perm_sorted_eq (lt:=fun x y=>cmpCr x y<0) (s1.trans ?_) s2 (cr_lt hz)
 rw[ha,hkk,crF_C hc hn,ofA_C,ofK_C,rawF_map,ksOf_map (gK0 ks),units22,wthL_map (fun j=>(gK_ok hk j).2.2)]
 exact hf.pm.map _
theorem ct6z:CtOk Tryz.prog G 6 e6z:=by
 intro args r hr hp
 unfold e6z at hr
 split at hr<;>cases hr
 rename_i a n c k m c' d
 obtain⟨rfl,rfl,h⟩:=hp
 have hl:a.length<1000000000:=by
  have h1:=chk_ok (flF_chk h)
  have:=len_sum a h1.2.1.1
  have:=h1.2.1.2
  omega
 obtain⟨h1,h2⟩:=flF_pat h
 have:=sp30 a k d hl
 rw[h1,h2]at this
 exact this.caps
/-! ### Rays -/
theorem fold_filter (f:Int×Int×Int→Int):∀(s:List (Int×Int×Int)) (L:List Ry),s.foldl (fun L s=>addR L s.1 (f s)) L=L++(s.map fun s=>(s.1,f s)).filter nzB
 |[],L=>by simp
 |x::s,L=>by
  rw[List.foldl_cons,fold_filter f s,List.map_cons,List.filter_cons]
  unfold addR nzB
  cases(f x==0)<;>simp
theorem kn_at {kd:List Int}(hk:P.kds 2 2 (ksOf kd))(c e:Int)(j:Nat)(he:0≤e)(hn:P.neE 2 2 c e=0)(hj:(P.units 2 2)[j]? =some (P.cod 2 2 c e)):knZ (P.wthL (P.units 2 2) (ksOf kd)) c e=(ksOf kd)[j]?.getD 0:=
 P.kn_eq s22 hk he hn hj
theorem walk22 {kd:List Int}(hk:P.kds 2 2 (ksOf kd)):walkR (P.wthL (P.units 2 2) (ksOf kd)) 2 2=(([1,2,3,4,5,6,7,0]:List Nat).map fun(r:Nat)=>((r:Int),kd[r]?.getD 0)).filter nzB:=by
 unfold walkR
 rw[fold_filter (fun s=>knZ (P.wthL (P.units 2 2) (ksOf kd)) s.2.1 s.2.2),show tabW 2 2=[(1,12,2),(2,9,0),(3,8,1),(4,2,0),(5,1,2),(6,1,0),(7,6,1),(0,6,0)]by decide]
 simp only[List.map_cons,List.map_nil,List.nil_append,kn_at hk 12 2 17 (by decide) (by decide) (by rw[units22];decide),kn_at hk 9 0 13 (by decide) (by decide) (by rw[units22];decide),kn_at hk 8 1 11 (by decide) (by decide) (by rw[units22];decide),kn_at hk 2 0 4 (by decide) (by decide) (by rw[units22];decide),kn_at hk 1 2 3 (by decide) (by decide) (by rw[units22];decide),kn_at hk 1 0 2 (by decide) (by decide) (by rw[units22];decide),kn_at hk 6 1 10 (by decide) (by decide) (by rw[units22];decide),kn_at hk 6 0 9 (by decide) (by decide) (by rw[units22];decide)]
 rfl
theorem RI_lt (kd:List Int):(RI kd).Pairwise (fun x y=>x.1<y.1):=by
 unfold RI
 refine List.Pairwise.filter _ ?_
 rw[List.pairwise_map]
 exact List.pairwise_lt_range.imp fun{x y} h=>by
  show(x:Int)<y
  omega
theorem rays22 {kd:List Int}(hk:P.kds 2 2 (ksOf kd)):raysL (P.wthL (P.units 2 2) (ksOf kd)) 2 2=RI kd:=by
 unfold raysL
 obtain⟨s1,s2⟩:=srtR_ok (walkR_bnd (P.wthL (P.units 2 2) (ksOf kd)) 2 2)
 refine perm_sorted_eq (lt:=fun x y=>x.1<y.1) (s1.trans ?_) s2 (RI_lt kd)
 rw[walk22 hk]
 unfold RI
 exact((by decide:([1,2,3,4,5,6,7,0]:List Nat).Perm (List.range 8)).map _).filter _
/-- The rays in the middle of a square. -/
def midL (q d:Int):List Ry:=if q=0 then[]else[(d,q),(d+4,q)]
theorem rays11 {kd:List Int}(hk:P.kds 2 2 (ksOf kd))(h8:kd[8]?.getD 0=0):raysL (P.wthL (P.units 2 2) (ksOf kd)) 1 1=midL (kd[5]?.getD 0) 1:=by
 unfold raysL
 obtain⟨s1,s2⟩:=srtR_ok (walkR_bnd (P.wthL (P.units 2 2) (ksOf kd)) 1 1)
 refine perm_sorted_eq (lt:=fun x y=>x.1<y.1) (s1.trans ?_) s2 (by unfold midL;split<;>simp)
 unfold walkR
 rw[fold_filter (fun s=>knZ (P.wthL (P.units 2 2) (ksOf kd)) s.2.1 s.2.2),show tabW 1 1=[(3,2,1),(5,0,2),(7,0,1),(1,1,2)]by decide]
 simp only[List.map_cons,List.map_nil,List.nil_append,kn_at hk 2 1 5 (by decide) (by decide) (by rw[units22];decide),kn_at hk 0 2 1 (by decide) (by decide) (by rw[units22];decide),kn_at hk 0 1 0 (by decide) (by decide) (by rw[units22];decide),kn_at hk 1 2 3 (by decide) (by decide) (by rw[units22];decide)]
 have e:∀(j r:Nat),uDir[j]? =some r→(ksOf kd)[j]?.getD 0=kd[r]?.getD 0:=fun j r h=>by unfold ksOf;rw[List.getElem?_map,h];rfl
 rw[e 5 8 rfl,e 1 5 rfl,e 0 8 rfl,e 3 5 rfl]
 unfold midL nzB
 generalize kd[5]?.getD 0=q
 by_cases hq:q=0
 ·subst hq;simp[h8]
 ·simp[h8,hq]<;>exact List.Perm.swap _ _ _
theorem rays31 {kd:List Int}(hk:P.kds 2 2 (ksOf kd))(h8:kd[8]?.getD 0=0):raysL (P.wthL (P.units 2 2) (ksOf kd)) 3 1=midL (kd[7]?.getD 0) 3:=by
 unfold raysL
 obtain⟨s1,s2⟩:=srtR_ok (walkR_bnd (P.wthL (P.units 2 2) (ksOf kd)) 3 1)
 refine perm_sorted_eq (lt:=fun x y=>x.1<y.1) (s1.trans ?_) s2 (by unfold midL;split<;>simp)
 unfold walkR
 rw[fold_filter (fun s=>knZ (P.wthL (P.units 2 2) (ksOf kd)) s.2.1 s.2.2),show tabW 3 1=[(3,6,1),(5,4,2),(7,4,1),(1,5,2)]by decide]
 simp only[List.map_cons,List.map_nil,List.nil_append,kn_at hk 6 1 10 (by decide) (by decide) (by rw[units22];decide),kn_at hk 4 2 7 (by decide) (by decide) (by rw[units22];decide),kn_at hk 4 1 6 (by decide) (by decide) (by rw[units22];decide),kn_at hk 5 2 8 (by decide) (by decide) (by rw[units22];decide)]
 have e:∀(j r:Nat),uDir[j]? =some r→(ksOf kd)[j]?.getD 0=kd[r]?.getD 0:=fun j r h=>by unfold ksOf;rw[List.getElem?_map,h];rfl
 rw[e 10 7 rfl,e 7 8 rfl,e 6 7 rfl,e 8 8 rfl]
 unfold midL nzB
 generalize kd[7]?.getD 0=q
 by_cases hq:q=0
 ·subst hq;simp[h8]
 ·simp[h8,hq]<;>exact List.Perm.swap _ _ _
theorem rays13 {kd:List Int}(hk:P.kds 2 2 (ksOf kd))(h8:kd[8]?.getD 0=0):raysL (P.wthL (P.units 2 2) (ksOf kd)) 1 3=midL (kd[3]?.getD 0) 3:=by
 unfold raysL
 obtain⟨s1,s2⟩:=srtR_ok (walkR_bnd (P.wthL (P.units 2 2) (ksOf kd)) 1 3)
 refine perm_sorted_eq (lt:=fun x y=>x.1<y.1) (s1.trans ?_) s2 (by unfold midL;split<;>simp)
 unfold walkR
 rw[fold_filter (fun s=>knZ (P.wthL (P.units 2 2) (ksOf kd)) s.2.1 s.2.2),show tabW 1 3=[(3,10,1),(5,8,2),(7,8,1),(1,9,2)]by decide]
 simp only[List.map_cons,List.map_nil,List.nil_append,kn_at hk 10 1 15 (by decide) (by decide) (by rw[units22];decide),kn_at hk 8 2 12 (by decide) (by decide) (by rw[units22];decide),kn_at hk 8 1 11 (by decide) (by decide) (by rw[units22];decide),kn_at hk 9 2 14 (by decide) (by decide) (by rw[units22];decide)]
 have e:∀(j r:Nat),uDir[j]? =some r→(ksOf kd)[j]?.getD 0=kd[r]?.getD 0:=fun j r h=>by unfold ksOf;rw[List.getElem?_map,h];rfl
 rw[e 15 3 rfl,e 12 8 rfl,e 11 3 rfl,e 14 8 rfl]
 unfold midL nzB
 generalize kd[3]?.getD 0=q
 by_cases hq:q=0
 ·subst hq;simp[h8]
 ·simp[h8,hq]<;>exact List.Perm.swap _ _ _
theorem rays33 {kd:List Int}(hk:P.kds 2 2 (ksOf kd))(h8:kd[8]?.getD 0=0):raysL (P.wthL (P.units 2 2) (ksOf kd)) 3 3=midL (kd[1]?.getD 0) 1:=by
 unfold raysL
 obtain⟨s1,s2⟩:=srtR_ok (walkR_bnd (P.wthL (P.units 2 2) (ksOf kd)) 3 3)
 refine perm_sorted_eq (lt:=fun x y=>x.1<y.1) (s1.trans ?_) s2 (by unfold midL;split<;>simp)
 unfold walkR
 rw[fold_filter (fun s=>knZ (P.wthL (P.units 2 2) (ksOf kd)) s.2.1 s.2.2),show tabW 3 3=[(3,14,1),(5,12,2),(7,12,1),(1,13,2)]by decide]
 simp only[List.map_cons,List.map_nil,List.nil_append,kn_at hk 14 1 19 (by decide) (by decide) (by rw[units22];decide),kn_at hk 12 2 17 (by decide) (by decide) (by rw[units22];decide),kn_at hk 12 1 16 (by decide) (by decide) (by rw[units22];decide),kn_at hk 13 2 18 (by decide) (by decide) (by rw[units22];decide)]
 have e:∀(j r:Nat),uDir[j]? =some r→(ksOf kd)[j]?.getD 0=kd[r]?.getD 0:=fun j r h=>by unfold ksOf;rw[List.getElem?_map,h];rfl
 rw[e 19 8 rfl,e 17 1 rfl,e 16 8 rfl,e 18 1 rfl]
 unfold midL nzB
 generalize kd[1]?.getD 0=q
 by_cases hq:q=0
 ·subst hq;simp[h8]
 ·simp[h8,hq]<;>exact List.Perm.swap _ _ _
end Go.Proofs.YtfafinkgmhkdmaaGreatDoor.X
