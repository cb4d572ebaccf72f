/-
 Cones, plain: the choices of kinds, in their order, and how many ways they have.
-/
import Derived.Test.YthiammkiobbclaaGreatDoorP11Z
import Derived.Test.YthiammkiobbclaaGreatDoorD19Z
set_option maxRecDepth 1000000
set_option linter.unusedVariables false
namespace Go.Proofs.YthiammkiobbclaaGreatDoor.X
open Go Go.Ab

def twoB (n:Nat)(h:List Int):Bool:=h.length==n&&h.all fun x=>x==1||x==2
theorem allK_all:(List.range 7).all (fun n=>(allK n).length==2 ^ n&&((allK n).all (twoB n)&&(List.range (2 ^ n)).all fun m=>(List.range n).all fun i=>gR (hM n m) i==1+Int.tmod (Int.fdiv m (2 ^ min (n-1-i) 64)) 2))=true:=by decide +kernel
theorem allK_nd:∀n:Nat,(allK n).Nodup
 |0=>List.nodup_cons.2 ⟨List.not_mem_nil,List.nodup_nil⟩
 |n+1=>by
  have ih:=allK_nd n
  unfold allK
  rw[List.nodup_append]
  refine⟨List.Pairwise.map _ (fun x y h e=>h (by simpa using e)) ih,List.Pairwise.map _ (fun x y h e=>h (by simpa using e)) ih,fun x hx y hy e=>?_⟩
  obtain⟨u,_,rfl⟩:=List.mem_map.1 hx
  obtain⟨v,_,rfl⟩:=List.mem_map.1 hy
  simp at e
theorem allK_facts {n:Nat}(hn:n≤6):(allK n).length=2 ^ n∧(∀h∈allK n,h.length=n∧∀x∈h,x=1∨x=2)∧∀m:Nat,m<2 ^ n→∀i:Nat,i<n→gR (hM n m) i=1+Int.tmod (Int.fdiv m (2 ^ min (n-1-i) 64)) 2:=by
 have h:=List.all_eq_true.1 allK_all n (List.mem_range.2 (by omega))
 rw[Bool.and_eq_true,Bool.and_eq_true,beq_iff_eq]at h
 obtain⟨h1,h2,h3⟩:=h
 refine⟨h1,fun x hx=>?_,fun m hm i hi=>?_⟩
 ·have:=List.all_eq_true.1 h2 x hx
  unfold twoB at this
  rw[Bool.and_eq_true,beq_iff_eq]at this
  refine⟨this.1,fun y hy=>?_⟩
  have:=List.all_eq_true.1 this.2 y hy
  rw[Bool.or_eq_true,beq_iff_eq,beq_iff_eq]at this
  exact this
 ·exact beq_iff_eq.1 (List.all_eq_true.1 (List.all_eq_true.1 h3 m (List.mem_range.2 hm)) i (List.mem_range.2 hi))
theorem hM_at {n m:Nat}(hm:m<(allK n).length):hM n m=(allK n)[m]:=by
 unfold hM;rw[Int.toNat_natCast,List.getElem?_eq_getElem hm];rfl
/-! ### Those that fit -/
theorem fitsL_all:∀k:List Int,fitsL k=(allK k.length).filter (fitZ k)
 |[]=>rfl
 |x::k=>by
  have ih:=fitsL_all k
  unfold fitsL
  rw[List.length_cons]
  unfold allK
  rw[List.filter_append,List.filter_map,List.filter_map,ih]
  have e1:((fitZ (x::k))∘fun h=>(1:Int)::h)=fun h=>(x==3||x==1)&&fitZ k h:=rfl
  have e2:((fitZ (x::k))∘fun h=>(2:Int)::h)=fun h=>(x==3||x==2)&&fitZ k h:=rfl
  rw[e1,e2,Bool.or_comm (x==1),Bool.or_comm (x==2)]
  congr 1
  ·cases(x==3||x==1)with
   |false=>simp
   |true=>simp
  ·cases(x==3||x==2)with
   |false=>simp
   |true=>simp
theorem fitT_z {k h:List Int}(hl:h.length=k.length):fitT k h k.length=fitZ k h:=by
 rw[← fit_z k h hl,Bool.eq_iff_iff,fit_get]
 unfold fitT
 rw[List.all_eq_true]
 constructor
 ·intro hf i hi
  have:=hf i (List.mem_range.2 hi)
  rw[Bool.or_eq_true,beq_iff_eq,beq_iff_eq]at this
  exact this
 ·intro hf i hi
  rw[Bool.or_eq_true,beq_iff_eq,beq_iff_eq]
  exact hf i (List.mem_range.1 hi)
theorem fitT_s (k h:List Int)(i:Nat):fitT k h (i+1)=(fitT k h i&&(gR k i==3||gR k i==gR h i)):=by
 unfold fitT
 rw[List.range_succ,List.all_append,List.all_cons,List.all_nil,Bool.and_true]
theorem kN_s {a k:List Int}{m:Nat}(hm:m<(allK k.length).length):kN a k (m+1)=kN a k m++(if isK a k (hM k.length m)=true then[hM k.length m]else[]):=by
 rw[hM_at hm]
 unfold kN
 rw[List.take_add_one,List.getElem?_eq_getElem hm,List.filter_append]
 refine congrArg _ ?_
 show List.filter _ [_]=_
 rw[List.filter_cons,List.filter_nil]
theorem kN_all {a k:List Int}(hc:chk a k=0)(hn:k.length≤6){m:Nat}(hm:(allK k.length).length≤m):kN a k m=kndsL a k:=by
 rw[knds_eq hc,fitsL_all,List.filter_filter]
 unfold kN
 rw[List.take_of_length_le hm]
 refine List.filter_congr fun h hh=>?_
 unfold isK
 rw[fitT_z ((allK_facts hn).2.1 h hh).1,Bool.and_comm]
theorem kN_get {a k:List Int}(hc:chk a k=0)(hn:k.length≤6){m:Nat}(hm:m<(allK k.length).length)(h:isK a k (hM k.length m)=true):(kndsL a k)[(kN a k m).length]? =some (hM k.length m):=by
 rw[← kN_all hc hn (Nat.le_refl _)]
 have e:(allK k.length)=(allK k.length).take (m+1)++(allK k.length).drop (m+1):=(List.take_append_drop ..).symm
 have e2:kN a k (allK k.length).length=kN a k (m+1)++((allK k.length).drop (m+1)).filter fun h=>isK a k h:=by
  unfold kN
  rw[List.take_length,← List.filter_append,← e]
 rw[e2,kN_s hm,if_pos h,List.append_assoc,List.getElem?_append_right (Nat.le_refl _),Nat.sub_self]
 rfl
theorem kN_le {a k:List Int}{m:Nat}:(kN a k m).length≤m:=by
 unfold kN
 exact Nat.le_trans (List.length_filter_le _ _) (by rw[List.length_take];omega)
/-! ### Of how many ways -/
theorem chk_kdL:∀(a k k':List Int) (s:Int),a.length=k.length→k'.length=k.length→(∀x∈k',1≤x∧x≤3)→chkL a k s=0→chkL a k' s=0
 |[],k,k',s,_,_,_,_=>by cases k'<;>rfl
 |x::a,[],k',s,h,_,_,_=>by simp at h
 |x::a,y::k,[],s,_,h,_,_=>by simp at h
 |x::a,y::k,z::k',s,h1,h2,h3,h=>by
  have hz:=h3 z (List.mem_cons_self ..)
  simp only[chkL]at h ⊢
  split at h
  ·cases h
  ·rename_i hn
   rw[if_neg (by omega)]
   exact chk_kdL a k k' _ (by simpa using h1) (by simpa using h2) (fun w hw=>h3 w (List.mem_cons_of_mem _ hw)) h
theorem chk_two {a k k':List Int}(h:chk a k=0)(hk:a.length=k.length)(h2:k'.length=k.length)(h3:∀x∈k',x=1∨x=2):chk a k'=0:=by
 unfold chk at h ⊢
 rw[if_pos hk]at h
 rw[if_pos (by omega)]
 exact chk_kdL a k k' 0 hk h2 (fun x hx=>by have:=h3 x hx;omega) h
theorem fit_eq {h x:List Int}(hh:∀y∈h,y=1∨y=2)(hl:x.length=h.length):fitB h x=true↔x=h:=by
 rw[fit_get]
 constructor
 ·intro hf
  refine List.ext_getElem hl fun i h1 h2=>?_
  have e1:gR h (i:Int)=h[i]:=by
   unfold gR;rw[Int.toNat_natCast,List.getElem?_eq_getElem h2];rfl
  have e2:gR x (i:Int)=x[i]:=by
   unfold gR;rw[Int.toNat_natCast,List.getElem?_eq_getElem h1];rfl
  have:=hf i h2
  rw[e1,e2]at this
  have h3:=hh h[i] (List.getElem_mem h2)
  omega
 ·rintro rfl i hi
  exact .inr rfl
theorem sum_cnt (X:List (List Int)):∀L:List (List Int),L.Nodup→(L.map fun h=>(((X.filter fun x=>x==h).length:Nat):Int)).sum=((X.filter fun x=>L.contains x).length:Nat)
 |[],_=>by
  have e:(X.filter fun x=>([]:List (List Int)).contains x)=[]:=List.filter_eq_nil_iff.2 fun x _=>by simp
  rw[e];rfl
 |h::L,hn=>by
  obtain⟨h1,h2⟩:=List.nodup_cons.1 hn
  rw[List.map_cons,List.sum_cons,sum_cnt X L h2]
  clear hn h2
  induction X with
  |nil=>rfl
  |cons x X ih=>
   rw[List.filter_cons,List.filter_cons,List.filter_cons,List.contains_cons]
   cases e:x==h with
   |true=>
    have:x=h:=beq_iff_eq.1 e
    subst this
    have:L.contains x=false:=by
     rw[← Bool.not_eq_true,List.contains_iff_mem];exact h1
    rw[this]
    simp only[Bool.true_or,if_true,List.length_cons,Bool.false_eq_true,if_false]
    omega
   |false=>
    rw[Bool.false_or]
    cases L.contains x<;>simp only[if_true,List.length_cons,Bool.false_eq_true,if_false]<;>omega
theorem knds_facts {a k h:List Int}(hc:chk a k=0)(hh:h∈kndsL a k):h.length=k.length∧(∀y∈h,y=1∨y=2)∧fitZ k h=true∧altB a=true∧h∈ksOf a∧altS a h=true:=by
 rw[knds_eq hc]at hh
 obtain⟨h1,h2⟩:=List.mem_filter.1 hh
 obtain⟨e1,e2,e3⟩:=fits_mem.1 h1
 rw[fold_fits hc h1,Bool.and_eq_true,List.contains_iff_mem]at h2
 exact⟨e1,e2,e3,h2.1,h2.2,altS_iff.2 ⟨chk_two hc (chk_ok hc).1 e1 e2,h2.1⟩⟩
theorem knds_pos {a k h:List Int}(hc:chk a k=0)(hh:h∈kndsL a k):1≤(cwL a h).length:=by
 obtain⟨h1,h2,h3,h4,h5,h6⟩:=knds_facts hc hh
 have:=(cw_pos h6).2 ⟨h,h5,(fit_eq h2 rfl).2 rfl⟩
 cases e:cwL a h with
 |nil=>exact absurd e this
 |cons x r=>simp
/-- The ways are those of the choices. -/
theorem knds_sum {a k:List Int}(hc:chk a k=0)(hn:k.length≤6):sumC a (kndsL a k)=((cwL a k).length:Nat):=by
 obtain⟨hl,hA,_⟩:=chk_ok hc
 have hne:a≠ones:=fun e=>by
  rw[e]at hl
  have:ones.length=8:=rfl
  omega
 cases hb:altB a with
 |false=>
  have e1:kndsL a k=[]:=by
   cases e:kndsL a k with
   |nil=>rfl
   |cons x r=>
    have:=(knds_facts hc (h:=x) (by rw[e];exact List.mem_cons_self ..)).2.2.2.1
    rw[hb]at this;cases this
  have e2:altS a k=false:=by
   rw[← Bool.not_eq_true,altS_iff]
   intro h
   rw[hb]at h;cases h.2
  rw[e1,cw_no e2];rfl
 |true=>
  have hs:altS a k=true:=altS_iff.2 ⟨hc,hb⟩
  have hk2:=ks_two hs
  have hnd:(kndsL a k).Nodup:=by
   rw[knds_eq hc,fitsL_all]
   exact((allK_nd _).filter _).filter _
  rw[cw_len hs hne]
  have e1:sumC a (kndsL a k)=((kndsL a k).map fun h=>((((ksOf a).filter fun x=>x==h).length:Nat):Int)).sum:=by
   unfold sumC
   refine congrArg _ (List.map_congr_left fun h hh=>?_)
   obtain⟨h1,h2,h3,h4,h5,h6⟩:=knds_facts hc hh
   rw[cw_len h6 hne]
   refine congrArg _ (congrArg _ (List.filter_congr fun x hx=>?_))
   rw[Bool.eq_iff_iff,fit_eq h2 (by rw[(hk2 x hx).2.1];omega),beq_iff_eq]
  rw[e1,sum_cnt _ _ hnd]
  refine congrArg _ (congrArg _ (List.filter_congr fun x hx=>?_))
  obtain⟨_,g1,g2⟩:=hk2 x hx
  rw[Bool.eq_iff_iff,List.contains_iff_mem,knds_eq hc,List.mem_filter,fits_mem,fit_z k x (by omega)]
  constructor
  ·exact fun h=>h.1.2.2
  ·intro hf
   have hm:x∈fitsL k:=fits_mem.2 ⟨by omega,g2,hf⟩
   refine⟨⟨by omega,g2,hf⟩,?_⟩
   rw[fold_fits hc hm,hb,Bool.true_and,List.contains_iff_mem]
   exact hx
theorem ks_leT:ksT.all (fun p=>decide (p.2.length≤1000))=true:=by decide +kernel
theorem cw_le {a h:List Int}(hs:altS a h=true)(hne:a≠ones):(cwL a h).length≤1000:=by
 rw[cw_len hs hne]
 refine Nat.le_trans (List.length_filter_le _ _) ?_
 rcases alt_in hs with e|⟨_,hi⟩
 ·exact absurd e hne
 ·obtain⟨p,hp,_,e⟩:=inT_of hi hne
  rw[e]
  exact of_decide_eq_true (List.all_eq_true.1 ks_leT p hp)
theorem sumC_app (a:List Int)(L:List (List Int))(h:List Int):sumC a (L++[h])=sumC a L+((cwL a h).length:Nat):=by
 unfold sumC
 rw[List.map_append,List.sum_append]
 simp
theorem sumC_bd {a:List Int}:∀L:List (List Int),(∀h∈L,(cwL a h).length≤1000)→0≤sumC a L∧sumC a L≤1000*(L.length:Int)
 |[],_=>by simp[sumC]
 |h::L,hL=>by
  have h1:=hL h (List.mem_cons_self ..)
  have h2:=sumC_bd L fun x hx=>hL x (List.mem_cons_of_mem _ hx)
  unfold sumC at h2 ⊢
  rw[List.map_cons,List.sum_cons,List.length_cons]
  omega
theorem kN_mem {a k h:List Int}{m:Nat}(hc:chk a k=0)(hn:k.length≤6)(hh:h∈kN a k m):h∈kndsL a k:=by
 rw[← kN_all hc hn (Nat.le_refl _)]
 unfold kN at hh ⊢
 obtain⟨h1,h2⟩:=List.mem_filter.1 hh
 rw[List.take_length]
 exact List.mem_filter.2 ⟨List.mem_of_mem_take h1,h2⟩
theorem kN_bd {a k:List Int}{m:Nat}(hc:chk a k=0)(hn:k.length≤6):0≤sumC a (kN a k m)∧sumC a (kN a k m)≤1000*((kN a k m).length:Int):=by
 obtain⟨hl,_,_⟩:=chk_ok hc
 have hne:a≠ones:=fun e=>by
  rw[e]at hl
  have:ones.length=8:=rfl
  omega
 exact sumC_bd _ fun h hh=>cw_le (knds_facts hc (kN_mem hc hn hh)).2.2.2.2.2 hne
end Go.Proofs.YthiammkiobbclaaGreatDoor.X
